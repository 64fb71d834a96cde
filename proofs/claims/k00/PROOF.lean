import PyProof.Rows.All
import Wide.All
import OpenK.AllK
import Wide.FinOn
import HandS.ForMost
import HandS.ForExc
import HandS.Nested
import HandS.EndTab
import HandS.IsInst
import HandS.CallSlots
import HandS.TupMul
import HandS.Text
import HandS.Conv
import KE.KTupSum
import KE.KExcIs
import HandS.WordsExc
import KE.KExcSuper
import KE.KSuper
import HandS.ExcInit
import HandS.ExcIs
import HandS.ExcField
import HandS.ExcValue
import HandS.Deep
import PyProof.ReprRoads
import HandS.EndBits
import HandS.Head0
import HandS.Head1
import HandS.Head2
import HandS.HeadHook1
import PySem.Challenge.RW_onebasis_k00_errors_of_all_parts
set_option Elab.async false
set_option linter.all false
set_option maxRecDepth 100000
set_option maxHeartbeats 4000000
namespace DL
open PySem L2 LamX NdefX

/-! ### data -/
inductive D where
  | non | bl (b : Bool) | int (i : Int) | str (x : Str)
  | tup (l : List D) | lst (l : List D) | dct (kvs : List (D × D))
  | ins (C : Addr) (fs : List (Str × D))
  | exc (C : Addr) (fs : List (Str × D))
  | clo (k : Nat) (caps : List D)
  | box (n : Nat)

/-- an error: its class, its attributes -/
structure Err where
  C : Addr
  fs : List (Str × D)

/-- a closure's words -/
structure CloS where
  name : Str
  qual : Str
  params : Arguments
  body : FuncBody
  scope : Scope
  fr : List Str

/-- what is the same through the whole program: the code tables, the closures' words, the classes -/
structure Gl0 where
  T : List NTab
  S : Nat → Option CloS
  insC : Addr → Prop
  excC : Addr → Prop
  attr : Addr → Str → Prop
  isa : Value → Value → Option Bool
  clsU : Value → Prop

/-- what callees share with their callers: W may be changed by them; inv holds of it; bx names objects -/
structure B where
  W : Addr → Prop
  inv : Hp → Prop
  bx : Nat → Addr → Prop
  hinv : ∀ H H' : Hp, (∀ a o, W a → H a = some o → H' a = some o) → inv H → inv H'
/-- a context: M may not be told of as data -/
structure G extends B where
  M : Addr → Prop
  hW : ∀ a, W a → M a

abbrev St := L2.St
def NT (o : HO) : Prop := ∀ ps, o ≠ .tbl ps
/-- all but the tables and what W tells of stays; nothing is gone -/
structure Ext (W : Addr → Prop) (H H' : Hp) : Prop where
  keep : ∀ a o, H a = some o → NT o → ¬ W a → H' a = some o
  gone : ∀ a, H' a = none → H a = none
theorem gone_upd {H : Hp} {p a : Addr} {o : HO} (h : upd H p o a = none) : H a = none := by
  by_cases e : a = p
  · rw [e, upd_same] at h; cases h
  · rw [upd_ne e] at h; exact h
theorem Ext.refl (W : Addr → Prop) (H : Hp) : Ext W H H := ⟨fun _ _ h _ _ => h, fun _ h => h⟩
theorem Ext.trans {W : Addr → Prop} {H H1 H2 : Hp} (a : Ext W H H1) (b : Ext W H1 H2) : Ext W H H2 := ⟨fun c o h n w => b.keep c o (a.keep c o h n w) n w, fun c h => a.gone c (b.gone c h)⟩
theorem Ext.new {W : Addr → Prop} {H : Hp} {p : Addr} {o : HO} (h : H p = none) : Ext W H (upd H p o) := ⟨fun a u e _ _ => by
  rw [upd_ne (ne_of_none e h)]; exact e, fun a => gone_upd⟩
theorem Ext.mut {W : Addr → Prop} {H H' : Hp} {p : Addr} {o : HO} (e : Ext W H H') (h : H p = none) : Ext W H (upd H' p o) := ⟨fun a u ha n w => by
  rw [upd_ne (ne_of_none ha h)]; exact e.keep a u ha n w, fun a q => e.gone a (gone_upd q)⟩
theorem Ext.ofN {W : Addr → Prop} {H H' : Hp} (e : ExtN H H') (k : ∀ a, H' a = none → H a = none) : Ext W H H' := ⟨fun a o h n _ => e a o h n, k⟩
theorem Ext.ofSame {W : Addr → Prop} {H H' : Hp} (e : ∀ b o, H b = some o → H' b = some o) : Ext W H H' := ⟨fun a o h _ _ => e a o h, fun a h => by
  cases q : H a with
  | none => rfl
  | some o => rw [e a o q] at h; cases h⟩

/-- a closure's object; a captured cell -/
def CloO (f : Addr) (S : CloS) (cl : List (Str × Addr)) (c : Addr) : HO := .ext fun h => ∃ (od : Option Addr) (sl : Array (Option Value)) (doc pm ctv : Value),
  h.get? f = some (⟨.type "function", od, .func { name := S.name, qualname := S.qual, params := S.params, body := S.body, scope := S.scope, globals := mainGlobals, closure := cl, defaults := .none, kwdefaults := .none, doc := doc, pyModule := pm, annotations := none, code := .ref c, closureTuple := ctv, builtins := builtinsNs }, sl⟩ : Obj)
def CelO (c : Addr) (o : Obj) : HO := .ext fun h => h.get? c = some o
/-- an exception's object, made or caught -/
def ExvO (a C : Addr) (dd : Option Addr) : HO := .ext fun h => ∃ (oe : Obj) (vs : Array Value), h.get? a = some oe ∧ oe.cls = .ref C ∧ oe.dict = dd ∧ oe.data = .fields vs
theorem NT.ext {φ : Heap → Prop} : NT (.ext φ) := fun _ z => by cases z
theorem NT.lst {xs : List V} : NT (.lst xs) := fun _ z => by cases z
theorem NT.tup {xs : List V} : NT (.tup xs) := fun _ z => by cases z
theorem NT.frz {o : Obj} {u : HO} : NT (.frz o u) := fun _ z => by cases z
theorem NT.ins {C dx : Addr} {fs : List (Str × V)} : NT (.ins C dx fs) := fun _ z => by cases z
theorem NT.dK {kvs : List (Key × V)} : NT (.dK kvs) := fun _ z => by cases z
theorem NT.dT {kvs : List (List Key × V)} : NT (.dT kvs) := fun _ z => by cases z
theorem NT.xd {fs : List (Str × V)} : NT (.xd fs) := fun _ z => by cases z

def keyD : Key → D
  | .inl i => .int i
  | .inr x => .str x

structure CapAt (H : Hp) (R : Addr → Prop) (cl : List (Str × Addr)) (fr : List Str) (vs : List V) : Prop where
  len : vs.length = fr.length
  has : ∀ (i : Nat) (y : Str), fr[i]? = some y → ∃ c o u v, cl.lookup y = some c ∧ H c = some (CelO c o) ∧ o.data = .cell (some u) ∧ vs[i]? = some v ∧ RelV v u ∧ ¬ R c
  all : ∀ y c, cl.lookup y = some c → y ∈ fr
  inj : ∀ x y c, cl.lookup x = some c → cl.lookup y = some c → x = y

/-! ### what a value tells -/
mutual
inductive Den (P : Gl0) (g : G) (R : Addr → Prop) (H : Hp) : V → D → Prop
  | non : Den P g R H .non .non
  | bl {b : Bool} : Den P g R H (.bl b) (.bl b)
  | int {i : Int} : Den P g R H (.int i) (.int i)
  | str {x : Str} : Den P g R H (.str x) (.str x)
  | tup {a : Addr} {vs : List V} {l : List D} : ¬ R a → H a = some (.tup vs) → DenL P g R H vs l → Den P g R H (.ref a) (.tup l)
  | lst {a : Addr} {vs : List V} {l : List D} : ¬ R a → H a = some (.lst vs) → DenL P g R H vs l → Den P g R H (.ref a) (.lst l)
  | dK {a : Addr} {kvs : List (Key × V)} {l : List D} : ¬ R a → H a = some (.dK kvs) → DenL P g R H (kvs.map (·.2)) l → (kvs.map (·.1)).Nodup → Den P g R H (.ref a) (.dct ((kvs.map fun p => keyD p.1).zip l))
  | dT {a : Addr} {kvs : List (List Key × V)} {l : List D} : ¬ R a → H a = some (.dT kvs) → DenL P g R H (kvs.map (·.2)) l → (kvs.map (·.1)).Nodup → Den P g R H (.ref a) (.dct ((kvs.map fun p => D.tup (p.1.map keyD)).zip l))
  | ins {a C dx : Addr} {vs : List (Str × V)} {fs : List (Str × D)} : ¬ R a → H a = some (.ins C dx vs) → DenF P g R H vs fs → Den P g R H (.ref a) (.ins C fs)
  | exc0 {a C : Addr} : ¬ R a → H a = some (ExvO a C none) → Den P g R H (.ref a) (.exc C [])
  | exc {a C d : Addr} {vs : List (Str × V)} {fs : List (Str × D)} : ¬ R a → ¬ R d → H a = some (ExvO a C (some d)) → H d = some (.xd vs) → DenF P g R H vs fs → Den P g R H (.ref a) (.exc C fs)
  | clo {f c : Addr} {k : Nat} {S : CloS} {cl : List (Str × Addr)} {vs : List V} {caps : List D} : P.S k = some S → ¬ R f → ¬ R c → H f = some (CloO f S cl c) → H c = some (CodeO c S.qual) → CapAt H R cl S.fr vs → DenL P g R H vs caps → Den P g R H (.ref f) (.clo k caps)
  | box {a : Addr} {n : Nat} : g.bx n a → Den P g R H (.ref a) (.box n)
inductive DenL (P : Gl0) (g : G) (R : Addr → Prop) (H : Hp) : List V → List D → Prop
  | nil : DenL P g R H [] []
  | cons {v : V} {vs : List V} {d : D} {ds : List D} : Den P g R H v d → DenL P g R H vs ds → DenL P g R H (v :: vs) (d :: ds)
inductive DenF (P : Gl0) (g : G) (R : Addr → Prop) (H : Hp) : List (Str × V) → List (Str × D) → Prop
  | nil : DenF P g R H [] []
  | cons {f : Str} {v : V} {vs : List (Str × V)} {d : D} {ds : List (Str × D)} : Den P g R H v d → DenF P g R H vs ds → DenF P g R H ((f, v) :: vs) ((f, d) :: ds)
end

section
variable {P : Gl0} {g : G} {R R' W : Addr → Prop} {H H' : Hp}
/-- what leads from one telling to another -/
structure Mv (g g' : G) (R R' : Addr → Prop) (H H' : Hp) : Prop where
  at_ : ∀ a o, ¬ R a → H a = some o → NT o → H' a = some o ∧ ¬ R' a
  bx : ∀ n a, g.bx n a → g'.bx n a
theorem CapAt.mv {g' : G} (m : Mv g g' R R' H H') {cl : List (Str × Addr)} {fr : List Str} {vs : List V} (c : CapAt H R cl fr vs) : CapAt H' R' cl fr vs :=
  ⟨c.len, fun i y e => by
    obtain ⟨c', o, u, v, h1, h2, h3, h4, h5, h6⟩ := c.has i y e
    obtain ⟨q1, q2⟩ := m.at_ c' _ h6 h2 NT.ext
    exact ⟨c', o, u, v, h1, q1, h3, h4, h5, q2⟩, c.all, c.inj⟩
mutual
theorem Den.mv {g' : G} (m : Mv g g' R R' H H') : ∀ {v : V} {d : D}, Den P g R H v d → Den P g' R' H' v d
  | _, _, .non => .non
  | _, _, .bl => .bl
  | _, _, .int => .int
  | _, _, .str => .str
  | _, _, .tup n h l => .tup (m.at_ _ _ n h NT.tup).2 (m.at_ _ _ n h NT.tup).1 (DenL.mv m l)
  | _, _, .lst n h l => .lst (m.at_ _ _ n h NT.lst).2 (m.at_ _ _ n h NT.lst).1 (DenL.mv m l)
  | _, _, .dK n h l u => .dK (m.at_ _ _ n h NT.dK).2 (m.at_ _ _ n h NT.dK).1 (DenL.mv m l) u
  | _, _, .dT n h l u => .dT (m.at_ _ _ n h NT.dT).2 (m.at_ _ _ n h NT.dT).1 (DenL.mv m l) u
  | _, _, .ins n h l => .ins (m.at_ _ _ n h NT.ins).2 (m.at_ _ _ n h NT.ins).1 (DenF.mv m l)
  | _, _, .exc0 n h => .exc0 (m.at_ _ _ n h NT.ext).2 (m.at_ _ _ n h NT.ext).1
  | _, _, .exc n n' h h' l => .exc (m.at_ _ _ n h NT.ext).2 (m.at_ _ _ n' h' NT.xd).2 (m.at_ _ _ n h NT.ext).1 (m.at_ _ _ n' h' NT.xd).1 (DenF.mv m l)
  | _, _, .clo s n n' h h' c l => .clo s (m.at_ _ _ n h NT.ext).2 (m.at_ _ _ n' h' NT.ext).2 (m.at_ _ _ n h NT.ext).1 (m.at_ _ _ n' h' NT.ext).1 (c.mv m) (DenL.mv m l)
  | _, _, .box b => .box (m.bx _ _ b)
theorem DenL.mv {g' : G} (m : Mv g g' R R' H H') : ∀ {vs : List V} {ds : List D}, DenL P g R H vs ds → DenL P g' R' H' vs ds
  | _, _, .nil => .nil
  | _, _, .cons h t => .cons (Den.mv m h) (DenL.mv m t)
theorem DenF.mv {g' : G} (m : Mv g g' R R' H H') : ∀ {vs : List (Str × V)} {ds : List (Str × D)}, DenF P g R H vs ds → DenF P g' R' H' vs ds
  | _, _, .nil => .nil
  | _, _, .cons h t => .cons (Den.mv m h) (DenF.mv m t)
end
theorem Mv.ext (e : Ext W H H') (h : ∀ a, W a → R a) : Mv g g R R H H' := ⟨fun a o n q t => ⟨e.keep a o q t fun w => n (h a w), n⟩, fun _ _ b => b⟩
theorem Mv.sub (h : ∀ a, R' a → R a) : Mv g g R R' H H := ⟨fun a o n q _ => ⟨q, fun w => n (h a w)⟩, fun _ _ b => b⟩
/-- what is new is not told of -/
theorem Mv.excl {p : Addr} (h : H p = none) : Mv g g R (fun a => R a ∨ a = p) H H := ⟨fun a o n q _ => ⟨q, fun w => w.elim n fun e => by rw [e, h] at q; cases q⟩, fun _ _ b => b⟩
theorem Mv.trans {g' g'' : G} {R'' : Addr → Prop} {H'' : Hp} (a : Mv g g' R R' H H') (b : Mv g' g'' R' R'' H' H'') : Mv g g'' R R'' H H'' :=
  ⟨fun c o n q t => let ⟨h1, h2⟩ := a.at_ c o n q t; b.at_ c o h2 h1 t, fun n c h => b.bx n c (a.bx n c h)⟩

theorem DenL.length : ∀ {vs : List V} {ds : List D}, DenL P g R H vs ds → vs.length = ds.length
  | _, _, .nil => rfl
  | _, _, .cons _ t => by simp [DenL.length t]
theorem DenL.get : ∀ {vs : List V} {ds : List D} {i : Nat} {d : D}, DenL P g R H vs ds → ds[i]? = some d → ∃ v, vs[i]? = some v ∧ Den P g R H v d
  | _, _, _, _, .nil, e => by simp at e
  | _, _, 0, _, .cons h _, e => by simp at e; subst e; exact ⟨_, rfl, h⟩
  | _, _, i + 1, d, .cons _ t, e => by
    obtain ⟨v, h1, h2⟩ := DenL.get (i := i) (d := d) t (by simpa using e)
    exact ⟨v, by simpa using h1, h2⟩
theorem DenL.get' : ∀ {vs : List V} {ds : List D} {i : Nat} {v : V}, DenL P g R H vs ds → vs[i]? = some v → ∃ d, ds[i]? = some d ∧ Den P g R H v d
  | _, _, _, _, .nil, e => by simp at e
  | _, _, 0, _, .cons h _, e => by simp at e; subst e; exact ⟨_, rfl, h⟩
  | _, _, i + 1, v, .cons _ t, e => by
    obtain ⟨d, h1, h2⟩ := DenL.get' (i := i) (v := v) t (by simpa using e)
    exact ⟨d, by simpa using h1, h2⟩
theorem DenL.append : ∀ {vs ws : List V} {ds es : List D}, DenL P g R H vs ds → DenL P g R H ws es → DenL P g R H (vs ++ ws) (ds ++ es)
  | _, _, _, _, .nil, s => s
  | _, _, _, _, .cons h t, s => .cons h (DenL.append t s)
theorem DenL.take : ∀ {vs : List V} {ds : List D} (n : Nat), DenL P g R H vs ds → DenL P g R H (vs.take n) (ds.take n)
  | _, _, 0, _ => .nil
  | _, _, _ + 1, .nil => .nil
  | _, _, n + 1, .cons h t => .cons h (DenL.take n t)
theorem DenL.drop : ∀ {vs : List V} {ds : List D} (n : Nat), DenL P g R H vs ds → DenL P g R H (vs.drop n) (ds.drop n)
  | _, _, 0, r => r
  | _, _, _ + 1, .nil => .nil
  | _, _, n + 1, .cons _ t => DenL.drop n t
theorem DenL.set {v : V} {d : D} (h : Den P g R H v d) : ∀ {vs : List V} {ds : List D} (i : Nat), DenL P g R H vs ds → DenL P g R H (vs.set i v) (ds.set i d)
  | _, _, _, .nil => .nil
  | _, _, 0, .cons _ t => .cons h t
  | _, _, i + 1, .cons q t => .cons q (DenL.set h i t)
theorem DenL.ints : ∀ {vs : List V} {ns : List Int}, DenL P g R H vs (ns.map D.int) → vs = ns.map V.int
  | vs, [], h => by cases h; rfl
  | vs, n :: ns, h => by
    cases h with
    | cons h t => cases h; rw [DenL.ints t]; rfl
theorem DenL.bls : ∀ {vs : List V} {ns : List Bool}, DenL P g R H vs (ns.map D.bl) → vs = ns.map V.bl
  | vs, [], h => by cases h; rfl
  | vs, n :: ns, h => by
    cases h with
    | cons h t => cases h; rw [DenL.bls t]; rfl
theorem DenF.lookup : ∀ {vs : List (Str × V)} {fs : List (Str × D)} {f : Str} {d : D}, DenF P g R H vs fs → fs.lookup f = some d → ∃ v, vs.lookup f = some v ∧ Den P g R H v d
  | _, _, _, _, .nil, e => by simp at e
  | (f', v) :: vs, (_, d') :: fs, f, d, .cons h t, e => by
    rw [List.lookup_cons] at e ⊢
    split at e
    · cases e
      exact ⟨v, rfl, h⟩
    · exact DenF.lookup t e
theorem DenF.lookup_none : ∀ {vs : List (Str × V)} {fs : List (Str × D)} {f : Str}, DenF P g R H vs fs → fs.lookup f = none → vs.lookup f = none
  | _, _, _, .nil, _ => rfl
  | (f', v) :: vs, (_, d') :: fs, f, .cons h t, e => by
    rw [List.lookup_cons] at e ⊢
    split at e
    · cases e
    · exact DenF.lookup_none t e
/-- shapes -/
theorem Den.of_int {v : V} {i : Int} (h : Den P g R H v (.int i)) : v = .int i := by cases h; rfl
theorem Den.of_bl {v : V} {b : Bool} (h : Den P g R H v (.bl b)) : v = .bl b := by cases h; rfl
theorem Den.of_str {v : V} {x : Str} (h : Den P g R H v (.str x)) : v = .str x := by cases h; rfl
theorem Den.of_non {v : V} (h : Den P g R H v .non) : v = .non := by cases h; rfl
theorem Den.of_tup {v : V} {l : List D} (h : Den P g R H v (.tup l)) : ∃ a vs, v = .ref a ∧ ¬ R a ∧ H a = some (.tup vs) ∧ DenL P g R H vs l := by
  cases h with
  | tup n r t => exact ⟨_, _, rfl, n, r, t⟩
theorem Den.of_lst {v : V} {l : List D} (h : Den P g R H v (.lst l)) : ∃ a vs, v = .ref a ∧ ¬ R a ∧ H a = some (.lst vs) ∧ DenL P g R H vs l := by
  cases h with
  | lst n r t => exact ⟨_, _, rfl, n, r, t⟩
theorem Den.of_ins {v : V} {C : Addr} {fs : List (Str × D)} (h : Den P g R H v (.ins C fs)) : ∃ a dx vs, v = .ref a ∧ ¬ R a ∧ H a = some (.ins C dx vs) ∧ DenF P g R H vs fs := by
  cases h with
  | ins n r t => exact ⟨_, _, _, rfl, n, r, t⟩
end
end DL

set_option maxRecDepth 100000
set_option maxHeartbeats 4000000
namespace DL
open PySem L2 LamX NdefX

/-! ### slots: unknown, a value, an object of one's own -/
inductive Sl where
  | u | v (d : D) | own (d : D)
abbrev SS := List Sl

def ownA (σ : St) (ss : SS) (a : Addr) : Prop := ∃ (i : Nat) (d : D), ss[i]? = some (Sl.own d) ∧ σ[i]? = some (some (V.ref a))
/-- what is left out besides, and what is framed -/
structure Ex where
  x : Addr → Prop
  z : Hp → (Addr → Prop) → Prop
  hz : ∀ (H H' : Hp) (R R' : Addr → Prop), (∀ a o, ¬ R a → H a = some o → NT o → H' a = some o ∧ ¬ R' a) → z H R → z H' R'
def Ex.none : Ex := ⟨fun _ => False, fun _ _ => True, fun _ _ _ _ _ _ => trivial⟩
/-- what may not be told of -/
def Rg (g : G) (E : Ex) (σ : St) (ss : SS) (a : Addr) : Prop := g.M a ∨ E.x a ∨ ownA σ ss a
/-- a mutable object's content -/
inductive Cont (P : Gl0) (g : G) (R : Addr → Prop) (H : Hp) (p : Addr) : D → Prop
  | lst {vs : List V} {l : List D} : H p = some (.lst vs) → DenL P g R H vs l → Cont P g R H p (.lst l)
  | dK {kvs : List (Key × V)} {l : List D} : H p = some (.dK kvs) → DenL P g R H (kvs.map (·.2)) l → (kvs.map (·.1)).Nodup → Cont P g R H p (.dct ((kvs.map fun p => keyD p.1).zip l))
  | dT {kvs : List (List Key × V)} {l : List D} : H p = some (.dT kvs) → DenL P g R H (kvs.map (·.2)) l → (kvs.map (·.1)).Nodup → Cont P g R H p (.dct ((kvs.map fun p => D.tup (p.1.map keyD)).zip l))
theorem Cont.there {P : Gl0} {g : G} {R : Addr → Prop} {H : Hp} {p : Addr} {d : D} (c : Cont P g R H p d) : ∃ o, H p = some o ∧ NT o := by
  cases c with
  | lst h _ => exact ⟨_, h, NT.lst⟩
  | dK h _ _ => exact ⟨_, h, NT.dK⟩
  | dT h _ _ => exact ⟨_, h, NT.dT⟩
theorem Cont.den {P : Gl0} {g : G} {R : Addr → Prop} {H : Hp} {p : Addr} {d : D} (c : Cont P g R H p d) (n : ¬ R p) : Den P g R H (.ref p) d := by
  cases c with
  | lst h l => exact .lst n h l
  | dK h l u => exact .dK n h l u
  | dT h l u => exact .dT n h l u
theorem Cont.mv {P : Gl0} {g g' : G} {R R' : Addr → Prop} {H H' : Hp} {p : Addr} {d : D} (m : Mv g g' R R' H H') (e : ∀ o, H p = some o → NT o → H' p = some o) (c : Cont P g R H p d) : Cont P g' R' H' p d := by
  cases c with
  | lst h l => exact .lst (e _ h NT.lst) (DenL.mv m l)
  | dK h l u => exact .dK (e _ h NT.dK) (DenL.mv m l) u
  | dT h l u => exact .dT (e _ h NT.dT) (DenL.mv m l) u

/-- the heap, without the slots -/
structure SG (P : Gl0) (g : G) (R : Addr → Prop) (H : Hp) : Prop where
  tabs : TabsN P.T H
  inv : g.inv H
  trk : ∀ a, R a → ∃ o, H a = some o ∧ NT o
/-- THE STATE: E is left out besides, H0 the heap at the entry -/
structure Stt (P : Gl0) (g : G) (E : Ex) (H0 : Hp) (ss : SS) (σ : St) (H : Hp) : Prop where
  sg : SG P g (Rg g E σ ss) H
  pin : E.z H (Rg g E σ ss)
  grow : Ext g.W H0 H
  len : ss.length = σ.length
  val : ∀ (i : Nat) (d : D), ss[i]? = some (.v d) → ∃ v, σ[i]? = some (some v) ∧ Den P g (Rg g E σ ss) H v d
  own : ∀ (i : Nat) (d : D), ss[i]? = some (.own d) → ∃ p, σ[i]? = some (some (.ref p)) ∧ H0 p = none ∧ ¬ g.M p ∧ ¬ E.x p ∧ Cont P g (Rg g E σ ss) H p d
  uniq : ∀ (i j : Nat) (d e : D) (a : Addr), ss[i]? = some (.own d) → ss[j]? = some (.own e) → σ[i]? = some (some (.ref a)) → σ[j]? = some (some (.ref a)) → i = j

section
variable {P : Gl0} {g : G} {E E' : Ex} {H0 H H' : Hp} {ss ss' : SS} {σ σ' : St}
theorem Rg.M {a : Addr} (h : g.M a) : Rg g E σ ss a := .inl h
theorem Rg.W {a : Addr} (h : g.W a) : Rg g E σ ss a := .inl (g.hW a h)
theorem Ext.inv (e : Ext g.W H H') (hw : ∀ a o, g.W a → H a = some o → H' a = some o) (h : g.inv H) : g.inv H' := g.hinv H H' hw h
/-- behind a step that keeps all but W -/
theorem Stt.ext (s : Stt P g E H0 ss σ H) (e : Ext g.W H H') (sg : SG P g (Rg g E σ ss) H') : Stt P g E H0 ss σ H' where
  sg := sg
  pin := E.hz _ _ _ _ (fun a o n q t => ⟨e.keep a o q t fun w => n (Rg.W w), n⟩) s.pin
  grow := s.grow.trans e
  len := s.len
  val := fun i d h => let ⟨v, h1, h2⟩ := s.val i d h; ⟨v, h1, Den.mv (Mv.ext e fun a w => Rg.W w) h2⟩
  own := fun i d h => let ⟨p, h1, h2, h3, h4, h5⟩ := s.own i d h
    ⟨p, h1, h2, h3, h4, h5.mv (Mv.ext e fun a w => Rg.W w) fun o q n => e.keep p o q n fun w => h3 (g.hW p w)⟩
  uniq := s.uniq
theorem SG.same {R : Addr → Prop} (s : SG P g R H) (e : ∀ b o, H b = some o → H' b = some o) : SG P g R H' :=
  ⟨s.tabs.ext e, g.hinv _ _ (fun a o _ h => e a o h) s.inv, fun a h => let ⟨o, q, n⟩ := s.trk a h; ⟨o, e a o q, n⟩⟩
theorem Stt.same (s : Stt P g E H0 ss σ H) (e : ∀ b o, H b = some o → H' b = some o) : Stt P g E H0 ss σ H' := s.ext (Ext.ofSame e) (s.sg.same e)
theorem same_new {p : Addr} {o : HO} (h : H p = none) : ∀ b u, H b = some u → upd H p o b = some u := fun b u e => by rw [upd_ne (ne_of_none e h)]; exact e
theorem Stt.new (s : Stt P g E H0 ss σ H) {p : Addr} {o : HO} (h : H p = none) : Stt P g E H0 ss σ (upd H p o) := s.same (same_new h)
theorem Stt.fresh (s : Stt P g E H0 ss σ H) {p : Addr} (h : H p = none) : ¬ Rg g E σ ss p := fun r => by
  obtain ⟨o, q, _⟩ := s.sg.trk p r
  rw [h] at q; cases q
theorem Stt.fresh0 (s : Stt P g E H0 ss σ H) {p : Addr} (h : H p = none) : H0 p = none := s.grow.gone p h

/-! ### readings -/
abbrev TD := SS → (D → Prop) → (Err → SS → Prop) → Prop
abbrev TB := SS → (Bool → Prop) → (Err → SS → Prop) → Prop
abbrev TL := SS → (List D → Prop) → (Err → SS → Prop) → Prop
structure DEnds where
  nx : SS → Prop
  rt : D → Prop
  bk : SS → Prop := fun _ => False
  ct : SS → Prop := fun _ => False
  ex : Err → SS → Prop
abbrev TSt := DEnds → SS → Prop

inductive ErrD (P : Gl0) (g : G) (R : Addr → Prop) (H : Hp) : Value → Option Addr → Err → Prop
  | zero {C : Addr} : ErrD P g R H (.ref C) none ⟨C, []⟩
  | some {C d : Addr} {vs : List (Str × V)} {fs : List (Str × D)} : ¬ R d → H d = some (.xd vs) → DenF P g R H vs fs → ErrD P g R H (.ref C) (some d) ⟨C, fs⟩
theorem ErrD.mv {g' : G} {R R' : Addr → Prop} {c : Value} {d : Option Addr} {e : Err} (m : Mv g g' R R' H H') (h : ErrD P g R H c d e) : ErrD P g' R' H' c d e := by
  cases h with
  | zero => exact .zero
  | some n h l => exact .some (m.at_ _ _ n h NT.xd).2 (m.at_ _ _ n h NT.xd).1 (DenF.mv m l)

/-- the wish of an error, told of the state -/
def WD (P : Gl0) (g : G) (E : Ex) (H0 : Hp) (Qx : Err → SS → Prop) : WX := fun cls dd σ H => ∃ err ss, Stt P g E H0 ss σ H ∧ ErrD P g (Rg g E σ ss) H cls dd err ∧ Qx err ss
def TX (X : Cx) (P : Gl0) (g : G) (E : Ex) (H0 : Hp) (Qx : Err → SS → Prop) : Prop := (∀ e ss, ¬ Qx e ss) ∨ Takes X (WD P g E H0 Qx)

def EPD (P : Gl0) (g : G) (E : Ex) (H0 : Hp) (ss : SS) (σ : St) (H : Hp) (Q : D → Prop) : VK := fun v H' => ∃ d, Stt P g E H0 ss σ H' ∧ Ext g.W H H' ∧ Den P g (Rg g E σ ss) H' v d ∧ Q d
def TPD (P : Gl0) (g : G) (E : Ex) (H0 : Hp) (ss : SS) (σ : St) (H : Hp) (Q : Bool → Prop) : Bool → Hp → Prop := fun b H' => Stt P g E H0 ss σ H' ∧ Ext g.W H H' ∧ Q b
def APD (P : Gl0) (g : G) (E : Ex) (H0 : Hp) (ss : SS) (σ : St) (H : Hp) (Q : List D → Prop) : List V → Hp → Prop := fun vs H' => ∃ ds, Stt P g E H0 ss σ H' ∧ Ext g.W H H' ∧ DenL P g (Rg g E σ ss) H' vs ds ∧ Q ds
def SPD (P : Gl0) (g : G) (E : Ex) (H0 : Hp) (N : DEnds) : Ends where
  nx := fun σ H => ∃ ss, Stt P g E H0 ss σ H ∧ N.nx ss
  bk := fun σ H => ∃ ss, Stt P g E H0 ss σ H ∧ N.bk ss
  ct := fun σ H => ∃ ss, Stt P g E H0 ss σ H ∧ N.ct ss
  rt := fun v H => ∃ d σ ss, Stt P g E H0 ss σ H ∧ Den P g (fun a => g.M a ∨ E.x a) H v d ∧ N.rt d

structure DE (X : Cx) (P : Gl0) (g : G) (e : Expr) (t : TD) : Prop where
  run : ∀ (pins : List (Addr × Obj)) (s : Shared) (σ : St) (H : Hp) (E : Ex) (H0 : Hp) (ss : SS) (Q : D → Prop) (Qx : Err → SS → Prop), Inv X pins σ H s → Stt P g E H0 ss σ H → TX X P g E H0 Qx → t ss Q Qx →
    wpAny (model X.prog X.w) X.A (eval e X.env) (EP X pins σ (EPD P g E H0 ss σ H Q)) X.xe s
structure DT (X : Cx) (P : Gl0) (g : G) (e : Expr) (t : TB) : Prop where
  run : ∀ (pins : List (Addr × Obj)) (s : Shared) (σ : St) (H : Hp) (E : Ex) (H0 : Hp) (ss : SS) (Q : Bool → Prop) (Qx : Err → SS → Prop), Inv X pins σ H s → Stt P g E H0 ss σ H → TX X P g E H0 Qx → t ss Q Qx →
    wpAny (model X.prog X.w) X.A (isTrue e X.env (eval e X.env)) (TP X pins σ (TPD P g E H0 ss σ H Q)) X.xe s
structure DW (X : Cx) (P : Gl0) (g : G) (e : Expr) (t : TB) : Prop where
  run : ∀ (whole : Sem Value) (pins : List (Addr × Obj)) (s : Shared) (σ : St) (H : Hp) (E : Ex) (H0 : Hp) (ss : SS) (Q : Bool → Prop) (Qx : Err → SS → Prop), Inv X pins σ H s → Stt P g E H0 ss σ H → TX X P g E H0 Qx → t ss Q Qx →
    wpAny (model X.prog X.w) X.A (isTrue e X.env whole) (TP X pins σ (TPD P g E H0 ss σ H Q)) X.xe s
structure DA (X : Cx) (P : Gl0) (g : G) (es : List Expr) (t : TL) : Prop where
  run : ∀ (pos : Pos) (pins : List (Addr × Obj)) (s : Shared) (σ : St) (H : Hp) (E : Ex) (H0 : Hp) (ss : SS) (Q : List D → Prop) (Qx : Err → SS → Prop), Inv X pins σ H s → Stt P g E H0 ss σ H → TX X P g E H0 Qx → t ss Q Qx →
    wpAny (model X.prog X.w) X.A (spliced (backTo pos (starEach es X.env))) (AP X pins σ (APD P g E H0 ss σ H Q)) X.xe s
structure DS (X : Cx) (P : Gl0) (g : G) (st : Stmt) (t : TSt) : Prop where
  run : ∀ (pins : List (Addr × Obj)) (s : Shared) (σ : St) (H : Hp) (E : Ex) (H0 : Hp) (ss : SS) (N : DEnds), Inv X pins σ H s → Stt P g E H0 ss σ H → TX X P g E H0 N.ex → t N ss →
    wpAny (model X.prog X.w) X.A (exec st X.env) (SP X pins (SPD P g E H0 N)) X.xe s
structure DSs (X : Cx) (P : Gl0) (g : G) (st : List Stmt) (t : TSt) : Prop where
  run : ∀ (pins : List (Addr × Obj)) (s : Shared) (σ : St) (H : Hp) (E : Ex) (H0 : Hp) (ss : SS) (N : DEnds), Inv X pins σ H s → Stt P g E H0 ss σ H → TX X P g E H0 N.ex → t N ss →
    wpAny (model X.prog X.w) X.A (execs st X.env) (SP X pins (SPD P g E H0 N)) X.xe s

/-! ### to and fro -/
section
variable {X : Cx} {e : Expr} {es : List Expr} {st : Stmt} {sts : List Stmt} {t : TD} {tb : TB} {tl : TL} {ts : TSt}
def upE (X : Cx) (P : Gl0) (g : G) (t : TD) : TE := fun σ H Q => ∃ E H0 ss Qd Qx, Stt P g E H0 ss σ H ∧ TX X P g E H0 Qx ∧ t ss Qd Qx ∧ ∀ v H', EPD P g E H0 ss σ H Qd v H' → Q v H'
def upT (X : Cx) (P : Gl0) (g : G) (t : TB) : TT := fun σ H Q => ∃ E H0 ss Qd Qx, Stt P g E H0 ss σ H ∧ TX X P g E H0 Qx ∧ t ss Qd Qx ∧ ∀ v H', TPD P g E H0 ss σ H Qd v H' → Q v H'
def upA (X : Cx) (P : Gl0) (g : G) (t : TL) : TA := fun σ H Q => ∃ E H0 ss Qd Qx, Stt P g E H0 ss σ H ∧ TX X P g E H0 Qx ∧ t ss Qd Qx ∧ ∀ v H', APD P g E H0 ss σ H Qd v H' → Q v H'
def upS (X : Cx) (P : Gl0) (g : G) (t : TSt) : TS := fun D σ H => ∃ E H0 ss N, Stt P g E H0 ss σ H ∧ TX X P g E H0 N.ex ∧ t N ss ∧ (∀ σ' H', (SPD P g E H0 N).nx σ' H' → D.nx σ' H') ∧ (∀ σ' H', (SPD P g E H0 N).bk σ' H' → D.bk σ' H') ∧ (∀ σ' H', (SPD P g E H0 N).ct σ' H' → D.ct σ' H') ∧ (∀ v H', (SPD P g E H0 N).rt v H' → D.rt v H')
theorem DE.pe (h : DE X P g e t) : PE X e (upE X P g t) := ⟨fun pins s σ H Q I hw => by
  obtain ⟨E, H0, ss, Qd, Qx, S, T, ht, k⟩ := hw
  exact thn (h.run pins s σ H E H0 ss Qd Qx I S T ht) fun u s' ⟨v, H', I', r, q⟩ => ⟨v, H', I', r, k v H' q⟩⟩
theorem DT.pt (h : DT X P g e tb) : PT X e (upT X P g tb) := ⟨fun pins s σ H Q I hw => by
  obtain ⟨E, H0, ss, Qd, Qx, S, T, ht, k⟩ := hw
  exact thn (h.run pins s σ H E H0 ss Qd Qx I S T ht) fun u s' ⟨H', I', q⟩ => ⟨H', I', k u H' q⟩⟩
theorem DW.pw (h : DW X P g e tb) : PW X e (upT X P g tb) := ⟨fun wh pins s σ H Q I hw => by
  obtain ⟨E, H0, ss, Qd, Qx, S, T, ht, k⟩ := hw
  exact thn (h.run wh pins s σ H E H0 ss Qd Qx I S T ht) fun u s' ⟨H', I', q⟩ => ⟨H', I', k u H' q⟩⟩
theorem DW.dt (h : DW X P g e tb) : DT X P g e tb := ⟨h.run _⟩
theorem DA.pa (h : DA X P g es tl) : PA X es (upA X P g tl) := ⟨fun pos pins s σ H Q I hw => by
  obtain ⟨E, H0, ss, Qd, Qx, S, T, ht, k⟩ := hw
  exact thn (h.run pos pins s σ H E H0 ss Qd Qx I S T ht) fun u s' ⟨v, H', I', r, q⟩ => ⟨v, H', I', r, k v H' q⟩⟩
theorem SP.mono {pins : List (Addr × Obj)} {D D' : Ends} {f : Flow} {s' : Shared} (h : SP X pins D f s') (h1 : ∀ σ' H', D.nx σ' H' → D'.nx σ' H') (h2 : ∀ σ' H', D.bk σ' H' → D'.bk σ' H') (h3 : ∀ σ' H', D.ct σ' H' → D'.ct σ' H') (h4 : ∀ v H', D.rt v H' → D'.rt v H') : SP X pins D' f s' := by
  cases f with
  | next => obtain ⟨σ', H', I, q⟩ := h; exact ⟨σ', H', I, h1 _ _ q⟩
  | brk => obtain ⟨σ', H', I, q⟩ := h; exact ⟨σ', H', I, h2 _ _ q⟩
  | cont => obtain ⟨σ', H', I, q⟩ := h; exact ⟨σ', H', I, h3 _ _ q⟩
  | ret u => obtain ⟨v, σ', H', I, r, q⟩ := h; exact ⟨v, σ', H', I, r, h4 _ _ q⟩
theorem DS.ps (h : DS X P g st ts) : PS X st (upS X P g ts) := ⟨fun pins s σ H D I hw => by
  obtain ⟨E, H0, ss, N, S, T, ht, k1, k2, k3, k4⟩ := hw
  exact thn (h.run pins s σ H E H0 ss N I S T ht) fun f s' q => SP.mono q k1 k2 k3 k4⟩
theorem DSs.pss (h : DSs X P g sts ts) : PSs X sts (upS X P g ts) := ⟨fun pins s σ H D I hw => by
  obtain ⟨E, H0, ss, N, S, T, ht, k1, k2, k3, k4⟩ := hw
  exact thn (h.run pins s σ H E H0 ss N I S T ht) fun f s' q => SP.mono q k1 k2 k3 k4⟩
/-- from the layer's rule -/
theorem DE.of {te : TE} (h : PE X e te) (k : ∀ σ H E H0 ss Q Qx, Stt P g E H0 ss σ H → TX X P g E H0 Qx → t ss Q Qx → te σ H (EPD P g E H0 ss σ H Q)) : DE X P g e t :=
  ⟨fun pins s σ H E H0 ss Q Qx I S T ht => h.run pins s σ H _ I (k σ H E H0 ss Q Qx S T ht)⟩
theorem DT.of {te : TT} (h : PT X e te) (k : ∀ σ H E H0 ss Q Qx, Stt P g E H0 ss σ H → TX X P g E H0 Qx → tb ss Q Qx → te σ H (TPD P g E H0 ss σ H Q)) : DT X P g e tb :=
  ⟨fun pins s σ H E H0 ss Q Qx I S T ht => h.run pins s σ H _ I (k σ H E H0 ss Q Qx S T ht)⟩
theorem DW.of {te : TT} (h : PW X e te) (k : ∀ σ H E H0 ss Q Qx, Stt P g E H0 ss σ H → TX X P g E H0 Qx → tb ss Q Qx → te σ H (TPD P g E H0 ss σ H Q)) : DW X P g e tb :=
  ⟨fun wh pins s σ H E H0 ss Q Qx I S T ht => h.run wh pins s σ H _ I (k σ H E H0 ss Q Qx S T ht)⟩
theorem DA.of {te : TA} (h : PA X es te) (k : ∀ σ H E H0 ss Q Qx, Stt P g E H0 ss σ H → TX X P g E H0 Qx → tl ss Q Qx → te σ H (APD P g E H0 ss σ H Q)) : DA X P g es tl :=
  ⟨fun pos pins s σ H E H0 ss Q Qx I S T ht => h.run pos pins s σ H _ I (k σ H E H0 ss Q Qx S T ht)⟩
theorem DS.of {te : TS} (h : PS X st te) (k : ∀ σ H E H0 ss N, Stt P g E H0 ss σ H → TX X P g E H0 N.ex → ts N ss → te (SPD P g E H0 N) σ H) : DS X P g st ts :=
  ⟨fun pins s σ H E H0 ss N I S T ht => h.run pins s σ H _ I (k σ H E H0 ss N S T ht)⟩
theorem DSs.of {te : TS} (h : PSs X sts te) (k : ∀ σ H E H0 ss N, Stt P g E H0 ss σ H → TX X P g E H0 N.ex → ts N ss → te (SPD P g E H0 N) σ H) : DSs X P g sts ts :=
  ⟨fun pins s σ H E H0 ss N I S T ht => h.run pins s σ H _ I (k σ H E H0 ss N S T ht)⟩
/-- running a part's reading -/
theorem upE.run {σ : St} {H : Hp} {E : Ex} {H0 : Hp} {ss : SS} {Q : D → Prop} {Qx : Err → SS → Prop} {K : VK} (S : Stt P g E H0 ss σ H) (T : TX X P g E H0 Qx) (h : t ss Q Qx) (k : ∀ v H' d, Stt P g E H0 ss σ H' → Ext g.W H H' → Den P g (Rg g E σ ss) H' v d → Q d → K v H') : upE X P g t σ H K :=
  ⟨E, H0, ss, Q, Qx, S, T, h, fun v H' ⟨d, a, b, c, q⟩ => k v H' d a b c q⟩
theorem upT.run {σ : St} {H : Hp} {E : Ex} {H0 : Hp} {ss : SS} {Q : Bool → Prop} {Qx : Err → SS → Prop} {K : Bool → Hp → Prop} (S : Stt P g E H0 ss σ H) (T : TX X P g E H0 Qx) (h : tb ss Q Qx) (k : ∀ b H', Stt P g E H0 ss σ H' → Ext g.W H H' → Q b → K b H') : upT X P g tb σ H K :=
  ⟨E, H0, ss, Q, Qx, S, T, h, fun b H' ⟨a, c, q⟩ => k b H' a c q⟩
theorem upA.run {σ : St} {H : Hp} {E : Ex} {H0 : Hp} {ss : SS} {Q : List D → Prop} {Qx : Err → SS → Prop} {K : List V → Hp → Prop} (S : Stt P g E H0 ss σ H) (T : TX X P g E H0 Qx) (h : tl ss Q Qx) (k : ∀ vs H' ds, Stt P g E H0 ss σ H' → Ext g.W H H' → DenL P g (Rg g E σ ss) H' vs ds → Q ds → K vs H') : upA X P g tl σ H K :=
  ⟨E, H0, ss, Q, Qx, S, T, h, fun v H' ⟨d, a, b, c, q⟩ => k v H' d a b c q⟩
theorem upS.run {σ : St} {H : Hp} {E : Ex} {H0 : Hp} {ss : SS} {N : DEnds} {D : Ends} (S : Stt P g E H0 ss σ H) (T : TX X P g E H0 N.ex) (h : ts N ss) (h1 : ∀ σ' H', (SPD P g E H0 N).nx σ' H' → D.nx σ' H') (h2 : ∀ σ' H', (SPD P g E H0 N).bk σ' H' → D.bk σ' H') (h3 : ∀ σ' H', (SPD P g E H0 N).ct σ' H' → D.ct σ' H') (h4 : ∀ v H', (SPD P g E H0 N).rt v H' → D.rt v H') : upS X P g ts D σ H :=
  ⟨E, H0, ss, N, S, T, h, h1, h2, h3, h4⟩
end
theorem den_ext {R : Addr → Prop} {v : V} {d : D} (hR : ∀ a, g.W a → R a) (e : Ext g.W H H') (h : Den P g R H v d) : Den P g R H' v d := Den.mv (Mv.ext e hR) h
end
end DL

set_option maxRecDepth 100000
set_option maxHeartbeats 4000000
namespace DL
open PySem L2 LamX NdefX

section
variable {X : Cx} {P : Gl0} {g : G} {a b c e : Expr} {es : List Expr} {ta tb tc : TD} {tt uu : TB} {tl : TL} {pos : Pos}
variable {E : Ex} {H0 H H1 : Hp} {ss : SS} {σ : St}

theorem EPD.back {Q : D → Prop} {v : V} {H' : Hp} (e : Ext g.W H H1) (h : EPD P g E H0 ss σ H1 Q v H') : EPD P g E H0 ss σ H Q v H' := by
  obtain ⟨d, a, b, c, q⟩ := h
  exact ⟨d, a, e.trans b, c, q⟩
theorem EPD.now {Q : D → Prop} {v : V} {d : D} (S : Stt P g E H0 ss σ H) (n : Den P g (Rg g E σ ss) H v d) (q : Q d) : EPD P g E H0 ss σ H Q v H := ⟨d, S, Ext.refl _ _, n, q⟩
/-- a new list, a new tuple -/
theorem EPD.lst {Q : D → Prop} {p : Addr} {vs : List V} {l : List D} (S : Stt P g E H0 ss σ H) (hp : H p = none) (n : DenL P g (Rg g E σ ss) H vs l) (q : Q (.lst l)) : EPD P g E H0 ss σ H Q (.ref p) (upd H p (.lst vs)) :=
  ⟨_, S.new hp, Ext.new hp, .lst (S.fresh hp) upd_same (DenL.mv (Mv.ext (Ext.new hp) fun a w => Rg.W w) n), q⟩
theorem EPD.tup {Q : D → Prop} {p : Addr} {vs : List V} {l : List D} (S : Stt P g E H0 ss σ H) (hp : H p = none) (n : DenL P g (Rg g E σ ss) H vs l) (q : Q (.tup l)) : EPD P g E H0 ss σ H Q (.ref p) (upd H p (.tup vs)) :=
  ⟨_, S.new hp, Ext.new hp, .tup (S.fresh hp) upd_same (DenL.mv (Mv.ext (Ext.new hp) fun a w => Rg.W w) n), q⟩
theorem den_W {v : V} {d : D} (e : Ext g.W H H1) (h : Den P g (Rg g E σ ss) H v d) : Den P g (Rg g E σ ss) H1 v d := den_ext (fun a w => Rg.W w) e h
theorem denL_W {vs : List V} {ds : List D} (e : Ext g.W H H1) (h : DenL P g (Rg g E σ ss) H vs ds) : DenL P g (Rg g E σ ss) H1 vs ds := DenL.mv (Mv.ext e fun a w => Rg.W w) h

/-! ### names, constants -/
def vV (i : Nat) : TD := fun ss Q _ => match ss[i]? with
  | some (.v d) => Q d
  | _ => False
def vC (d : D) : TD := fun _ Q _ => Q d
theorem d_var (i : Nat) {x : Str} (hN : X.N[i]? = some x := by rfl) (hv : Vis X.env.scope x := by first | exact Or.inl rfl | exact Or.inr (Or.inl rfl) | exact Or.inr (Or.inr rfl)) (hd : (x == ("__debug__" : Str)) = false := by decide) (hcd : (x == ("__classdict__" : Str)) = false := by decide) : DE X P g (.Name x pos) (vV i) :=
  DE.of (pe_var hN hv hd hcd) fun σ H E H0 ss Q Qx S T h => by
    unfold vV at h
    split at h
    · rename_i d hs
      obtain ⟨v, h1, h2⟩ := S.val i d hs
      exact ⟨v, h1, .now S h2 h⟩
    · exact h.elim
theorem d_int {i j} : DE X P g (.Constant (.int i) j pos) (vC (.int i)) := DE.of pe_int fun σ H E H0 ss Q Qx S T h => .now S .int h
theorem d_bl {i j} : DE X P g (.Constant (.bool i) j pos) (vC (.bl i)) := DE.of pe_bl fun σ H E H0 ss Q Qx S T h => .now S .bl h
theorem d_non {j} : DE X P g (.Constant .none j pos) (vC .non) := DE.of pe_non fun σ H E H0 ss Q Qx S T h => .now S .non h
theorem d_str {x j} : DE X P g (.Constant (.str x) j pos) (vC (.str x)) := DE.of pe_str fun σ H E H0 ss Q Qx S T h => .now S .str h
/-- a module's int -/
theorem d_gint {x : Str} {i : Int} {t : Tok} (hg : Gl X x) (hm : X.mg x = some (.int i t)) (hd : (x == ("__debug__" : Str)) = false := by decide) : DE X P g (.Name x pos) (vC (.int i)) :=
  DE.of (pe_glob (v := .int i) hg hm ⟨_, rfl⟩ hd) fun σ H E H0 ss Q Qx S T h => .now S .int h

/-! ### operators -/
abbrev RD := D → D → (D → Prop) → Prop
def OpD (X : Cx) (P : Gl0) (g : G) (f : Value → Value → Sem Value) (r : RD) : Prop :=
  ∃ hr : R2, OpR X f hr ∧ ∀ (σ : St) (H : Hp) (E : Ex) (H0 : Hp) (ss : SS) (x y : V) (dx dy : D) (Q : D → Prop) (K : VK), Stt P g E H0 ss σ H → Den P g (Rg g E σ ss) H x dx → Den P g (Rg g E σ ss) H y dy → r dx dy Q → (∀ v H', EPD P g E H0 ss σ H Q v H' → K v H') → hr x y H K
def vOp (r : RD) (ta tb : TD) : TD := fun ss Q Qx => ta ss (fun x => tb ss (fun y => r x y Q) Qx) Qx
theorem d_op {op : Operator} {r : RD} (ho : OpD X P g (binaryOp op) r) (ha : DE X P g a ta) (hb : DE X P g b tb) : DE X P g (.BinOp a op b pos) (vOp r ta tb) := by
  obtain ⟨hr, h1, h2⟩ := ho
  refine ⟨fun pins s σ H E H0 ss Q Qx I S T h => ?_⟩
  refine wpAny_BinOp ?_
  refine thn (ha.run pins s σ H E H0 ss _ Qx I S T h) fun v s1 ⟨x, H1, I1, r1, dx, S1, e1, n1, q1⟩ => ?_
  refine thn (hb.run pins s1 σ H1 E H0 ss _ Qx I1 S1 T q1) fun u s2 ⟨y, H2, I2, r2, dy, S2, e2, n2, q2⟩ => ?_
  refine thn (h1 pins s2 σ H2 x y v u _ I2 r1 r2 (h2 σ H2 E H0 ss x y dx dy Q _ S2 (den_W e2 n1) n2 q2 fun _ _ z => z)) fun z s3 ⟨w, H3, I3, r3, q3⟩ => ?_
  exact ⟨w, H3, I3, r3, EPD.back (e1.trans e2) q3⟩
theorem d_cmp {op : CmpOp} {r : RD} (ho : OpD X P g (compareOp op) r) (ha : DE X P g a ta) (hb : DE X P g b tb) (hm : behindInMarks op b = false) : DE X P g (.Compare a [op] [b] pos) (vOp r ta tb) := by
  obtain ⟨hr, h1, h2⟩ := ho
  refine ⟨fun pins s σ H E H0 ss Q Qx I S T h => ?_⟩
  refine wpAny_Compare1 ?_ hm
  refine thn (ha.run pins s σ H E H0 ss _ Qx I S T h) fun v s1 ⟨x, H1, I1, r1, dx, S1, e1, n1, q1⟩ => ?_
  refine thn (hb.run pins s1 σ H1 E H0 ss _ Qx I1 S1 T q1) fun u s2 ⟨y, H2, I2, r2, dy, S2, e2, n2, q2⟩ => ?_
  refine thn (h1 pins s2 σ H2 x y v u _ I2 r1 r2 (h2 σ H2 E H0 ss x y dx dy Q _ S2 (den_W e2 n1) n2 q2 fun _ _ z => z)) fun z s3 ⟨w, H3, I3, r3, q3⟩ => ?_
  exact ⟨w, H3, I3, r3, EPD.back (e1.trans e2) q3⟩
def isB (Q : Bool → Prop) : D → Prop
  | .bl b => Q b
  | _ => False
def vTest (t : TD) : TB := fun ss Q Qx => t ss (isB Q) Qx
theorem isB.bl {Q : Bool → Prop} {d : D} (h : isB Q d) : ∃ b, d = .bl b ∧ Q b := by
  cases d with
  | bl b => exact ⟨b, rfl, h⟩
  | _ => exact h.elim
/-- a comparison as a test -/
theorem t_cmp {op : CmpOp} {r : RD} (ho : OpD X P g (compareOp op) r) (ha : DE X P g a ta) (hb : DE X P g b tb) (hm : behindInMarks op b = false) : DT X P g (.Compare a [op] [b] pos) (vTest (vOp r ta tb)) := by
  obtain ⟨hr, h1, h2⟩ := ho
  refine ⟨fun pins s σ H E H0 ss Q Qx I S T h => ?_⟩
  refine wpAny_isTrue_Compare1 ?_ hm
  refine thn (ha.run pins s σ H E H0 ss _ Qx I S T h) fun v s1 ⟨x, H1, I1, r1, dx, S1, e1, n1, q1⟩ => ?_
  refine thn (hb.run pins s1 σ H1 E H0 ss _ Qx I1 S1 T q1) fun u s2 ⟨y, H2, I2, r2, dy, S2, e2, n2, q2⟩ => ?_
  refine thn (h1 pins s2 σ H2 x y v u _ I2 r1 r2 (h2 σ H2 E H0 ss x y dx dy _ _ S2 (den_W e2 n1) n2 q2 fun _ _ z => z)) fun z s3 ⟨w, H3, I3, r3, d, S3, e3, n3, q3⟩ => ?_
  obtain ⟨k, rfl, q⟩ := q3.bl
  cases n3
  cases r3
  exact wpAny_truthy_bool ⟨H3, I3, S3, (e1.trans e2).trans e3, q⟩
/-- an expression whose value is a bool, as a test -/
theorem t_val (h : DE X P g e ta) (he : ∀ whole, isTrue e X.env whole = (do let v ← whole; standAt e.pos; holding [v] (truthy v)) := by intro _; rfl) : DT X P g e (vTest ta) :=
  DT.of (pt_val h.pe he) fun σ H E H0 ss Q Qx S T h => upE.run S T h fun v H' d S' e' n q => by
    obtain ⟨k, rfl, q⟩ := q.bl
    cases n
    exact ⟨k, rfl, S', e', q⟩
/-! ### and, or, not, if -/
def vAnd (t u : TB) : TB := fun ss Q Qx => t ss (fun b => match b with | true => u ss Q Qx | false => Q false) Qx
def vOr (t u : TB) : TB := fun ss Q Qx => t ss (fun b => match b with | true => Q true | false => u ss Q Qx) Qx
def vNot (t : TB) : TB := fun ss Q Qx => t ss (fun b => Q (!b)) Qx
theorem TPD.back {Q : Bool → Prop} {v : Bool} {H' : Hp} (e : Ext g.W H H1) (h : TPD P g E H0 ss σ H1 Q v H') : TPD P g E H0 ss σ H Q v H' := by
  obtain ⟨a, b, q⟩ := h
  exact ⟨a, e.trans b, q⟩
theorem w_and1 (ha : DT X P g a tt) : DW X P g (.BoolOp .And [a] pos) tt := DW.of (pw_and1 ha.pt) fun σ H E H0 ss Q Qx S T h => upT.run S T h fun b H' S' e q => ⟨S', e, q⟩
theorem w_or1 (ha : DT X P g a tt) : DW X P g (.BoolOp .Or [a] pos) tt := DW.of (pw_or1 ha.pt) fun σ H E H0 ss Q Qx S T h => upT.run S T h fun b H' S' e q => ⟨S', e, q⟩
theorem w_and {rest : List Expr} (ha : DT X P g a tt) (hb : DW X P g (.BoolOp .And (b :: rest) pos) uu) : DW X P g (.BoolOp .And (a :: b :: rest) pos) (vAnd tt uu) := DW.of (pw_and ha.pt hb.pw) fun σ H E H0 ss Q Qx S T h => upT.run S T h fun k H' S' e q => by
  cases k with
  | true => exact iteT (upT.run S' T q fun k' H'' S'' e' q' => ⟨S'', e.trans e', q'⟩)
  | false => exact iteF ⟨S', e, q⟩
theorem w_or {rest : List Expr} (ha : DT X P g a tt) (hb : DW X P g (.BoolOp .Or (b :: rest) pos) uu) : DW X P g (.BoolOp .Or (a :: b :: rest) pos) (vOr tt uu) := DW.of (pw_or ha.pt hb.pw) fun σ H E H0 ss Q Qx S T h => upT.run S T h fun k H' S' e q => by
  cases k with
  | true => exact iteT ⟨S', e, q⟩
  | false => exact iteF (upT.run S' T q fun k' H'' S'' e' q' => ⟨S'', e.trans e', q'⟩)
theorem t_not (ha : DT X P g a tt) : DT X P g (.UnaryOp .Not a pos) (vNot tt) := DT.of (pt_not ha.pt) fun σ H E H0 ss Q Qx S T h => upT.run S T h fun b H' S' e q => ⟨S', e, q⟩
def vAndV (ta tb : TD) : TD := fun ss Q Qx => ta ss (isB fun b => match b with | true => tb ss Q Qx | false => Q (.bl false)) Qx
def vOrV (ta tb : TD) : TD := fun ss Q Qx => ta ss (isB fun b => match b with | true => Q (.bl true) | false => tb ss Q Qx) Qx
def vNotV (ta : TD) : TD := fun ss Q Qx => ta ss (isB fun b => Q (.bl (!b))) Qx
theorem d_one {op} (h : DE X P g a ta) : DE X P g (.BoolOp op [a] pos) ta := DE.of (pe_one h.pe) fun σ H E H0 ss Q Qx S T h => upE.run S T h fun v H' d S' e n q => ⟨d, S', e, n, q⟩
theorem d_and {rest : List Expr} (ha : DE X P g a ta) (hb : DE X P g (.BoolOp .And (b :: rest) pos) tb) : DE X P g (.BoolOp .And (a :: b :: rest) pos) (vAndV ta tb) := DE.of (pe_and ha.pe hb.pe) fun σ H E H0 ss Q Qx S T h => upE.run S T h fun v H' d S' e n q => by
  obtain ⟨k, rfl, q⟩ := q.bl
  cases n
  refine ⟨k, rfl, ?_⟩
  cases k with
  | true => exact iteT (upE.run S' T q fun v' H'' d' S'' e' n' q' => ⟨d', S'', e.trans e', n', q'⟩)
  | false => exact iteF ⟨_, S', e, .bl, q⟩
theorem d_or {rest : List Expr} (ha : DE X P g a ta) (hb : DE X P g (.BoolOp .Or (b :: rest) pos) tb) : DE X P g (.BoolOp .Or (a :: b :: rest) pos) (vOrV ta tb) := DE.of (pe_or ha.pe hb.pe) fun σ H E H0 ss Q Qx S T h => upE.run S T h fun v H' d S' e n q => by
  obtain ⟨k, rfl, q⟩ := q.bl
  cases n
  refine ⟨k, rfl, ?_⟩
  cases k with
  | true => exact iteT ⟨_, S', e, .bl, q⟩
  | false => exact iteF (upE.run S' T q fun v' H'' d' S'' e' n' q' => ⟨d', S'', e.trans e', n', q'⟩)
theorem d_not (ha : DE X P g a ta) : DE X P g (.UnaryOp .Not a pos) (vNotV ta) := DE.of (pe_not ha.pe) fun σ H E H0 ss Q Qx S T h => upE.run S T h fun v H' d S' e n q => by
  obtain ⟨k, rfl, q⟩ := q.bl
  cases n
  exact ⟨k, rfl, _, S', e, .bl, q⟩
def vIf (t : TB) (ta tb : TD) : TD := fun ss Q Qx => t ss (fun b => match b with | true => ta ss Q Qx | false => tb ss Q Qx) Qx
theorem d_ifExp (hc : DT X P g c tt) (ha : DE X P g a ta) (hb : DE X P g b tb) : DE X P g (.IfExp c a b pos) (vIf tt ta tb) := DE.of (pe_ifExp hc.pt ha.pe hb.pe) fun σ H E H0 ss Q Qx S T h => upT.run S T h fun k H' S' e q => by
  cases k with
  | true => exact iteT (upE.run S' T q fun v' H'' d' S'' e' n' q' => ⟨d', S'', e.trans e', n', q'⟩)
  | false => exact iteF (upE.run S' T q fun v' H'' d' S'' e' n' q' => ⟨d', S'', e.trans e', n', q'⟩)
/-! ### is None -/
def isNon : D → Bool
  | .non => true
  | _ => false
theorem Den.isNon {R : Addr → Prop} {v : V} {d : D} (h : Den P g R H v d) : decide (v = .non) = isNon d := by
  cases h <;> rfl
def vIsN (ta : TD) : TD := fun ss Q Qx => ta ss (fun d => Q (.bl (isNon d))) Qx
def vNotN (ta : TD) : TD := fun ss Q Qx => ta ss (fun d => Q (.bl (!isNon d))) Qx
theorem d_isN {j pos'} (ha : DE X P g a ta) : DE X P g (.Compare a [.Is] [.Constant .none j pos'] pos) (vIsN ta) := DE.of (pe_cmp (pc_isN ha.pe) rfl) fun σ H E H0 ss Q Qx S T h => upE.run S T h fun v H' d S' e n q => by
  rw [n.isNon]
  exact ⟨_, S', e, .bl, q⟩
theorem d_notN {j pos'} (ha : DE X P g a ta) : DE X P g (.Compare a [.IsNot] [.Constant .none j pos'] pos) (vNotN ta) := DE.of (pe_cmp (pc_notN ha.pe) rfl) fun σ H E H0 ss Q Qx S T h => upE.run S T h fun v H' d S' e n q => by
  rw [n.isNon]
  exact ⟨_, S', e, .bl, q⟩
theorem t_isN {j pos'} (ha : DE X P g a ta) : DT X P g (.Compare a [.Is] [.Constant .none j pos'] pos) (vTest (vIsN ta)) := DT.of (pt_cmp (pc_isN ha.pe) rfl) fun σ H E H0 ss Q Qx S T h => upE.run S T h fun v H' d S' e n q => by
  rw [n.isNon]
  exact ⟨_, rfl, S', e, q⟩
theorem t_notN {j pos'} (ha : DE X P g a ta) : DT X P g (.Compare a [.IsNot] [.Constant .none j pos'] pos) (vTest (vNotN ta)) := DT.of (pt_cmp (pc_notN ha.pe) rfl) fun σ H E H0 ss Q Qx S T h => upE.run S T h fun v H' d S' e n q => by
  rw [n.isNon]
  exact ⟨_, rfl, S', e, q⟩
/-! ### arguments, displays -/
def vNil : TL := fun _ Q _ => Q []
def vCons (ta : TD) (tl : TL) : TL := fun ss Q Qx => ta ss (fun x => tl ss (fun xs => Q (x :: xs)) Qx) Qx
theorem a_nil : DA X P g [] vNil := DA.of pa_nil fun σ H E H0 ss Q Qx S T h => ⟨[], S, Ext.refl _ _, .nil, h⟩
theorem a_cons (ha : DE X P g e ta) (hr : DA X P g es tl) (hs : starEach (e :: es) X.env = (false, eval e X.env) :: starEach es X.env := by rfl) : DA X P g (e :: es) (vCons ta tl) :=
  DA.of (pa_cons ha.pe hr.pa hs) fun σ H E H0 ss Q Qx S T h => upE.run S T h fun v H' d S' e n q => upA.run S' T q fun vs H'' ds S'' e' ns q' => ⟨d :: ds, S'', e.trans e', .cons (den_W e' n) ns, q'⟩
def vTup (tl : TL) : TD := fun ss Q Qx => tl ss (fun l => l.length ≤ 100000 ∧ Q (.tup l)) Qx
def vLst (tl : TL) : TD := fun ss Q Qx => tl ss (fun l => l.length ≤ 100000 ∧ Q (.lst l)) Qx
theorem line5 {n : Nat} (h : n ≤ 100000) : n ≤ sizeLine := Nat.le_trans h (by decide)
theorem d_tup {x1} (h : DA X P g es tl) : DE X P g (.Tuple es x1 pos) (vTup tl) := DE.of (pe_tup h.pa) fun σ H E H0 ss Q Qx S T h => upA.run S T h fun vs H' ds S' e ns q =>
  ⟨by rw [ns.length]; exact line5 q.1, fun p hp => EPD.back e (.tup S' hp ns q.2)⟩
theorem d_lst (h : DA X P g es tl) : DE X P g (.List es pos) (vLst tl) := DE.of (pe_lst h.pa) fun σ H E H0 ss Q Qx S T h => upA.run S T h fun vs H' ds S' e ns q =>
  ⟨by rw [ns.length]; exact line5 q.1, fun p hp => EPD.back e (.lst S' hp ns q.2)⟩
end
end DL

set_option maxRecDepth 100000
set_option maxHeartbeats 4000000
namespace DL
open PySem L2 LamX NdefX

section
variable {X : Cx} {P : Gl0} {g : G} {a b c e : Expr} {es : List Expr} {ta tb tc : TD} {tt uu : TB} {tl : TL} {pos : Pos}
variable {E : Ex} {H0 H H1 : Hp} {ss : SS} {σ : St}

/-! ### the operators' meanings -/
def rAdd : RD := fun x y Q => match x, y with
  | .int i, .int j => Q (.int (i + j))
  | .str s, .str t => s.length + t.length ≤ sizeLine ∧ Q (.str (s ++ t))
  | .lst l, .lst m => l.length + m.length ≤ sizeLine ∧ Q (.lst (l ++ m))
  | .tup l, .tup m => l ≠ [] ∧ l.length + m.length ≤ sizeLine ∧ Q (.tup (l ++ m))
  | _, _ => False
theorem o_add : OpD X P g (binaryOp .Add) rAdd := by
  refine ⟨_, op_add.or (op_add_str.or (op_cat.or op_catT)), fun σ H E H0 ss x y dx dy Q K S nx ny h kk => ?_⟩
  unfold rAdd at h
  split at h
  · cases nx; cases ny
    exact .inl ⟨_, _, rfl, rfl, kk _ _ (.now S .int h)⟩
  · cases nx; cases ny
    exact .inr (.inl ⟨_, _, rfl, rfl, h.1, kk _ _ (.now S .str h.2)⟩)
  · obtain ⟨a, vs, rfl, n1, h1, l1⟩ := nx.of_lst
    obtain ⟨b, ws, rfl, n2, h2, l2⟩ := ny.of_lst
    exact .inr (.inr (.inl ⟨a, b, vs, ws, rfl, rfl, h1, h2, by rw [l1.length, l2.length]; exact h.1, fun p hp => kk _ _ (.lst S hp (l1.append l2) h.2)⟩))
  · obtain ⟨a, vs, rfl, n1, h1, l1⟩ := nx.of_tup
    obtain ⟨b, ws, rfl, n2, h2, l2⟩ := ny.of_tup
    obtain ⟨h3, h4, h5⟩ := h
    refine .inr (.inr (.inr ⟨a, b, vs, ws, rfl, rfl, SqT.of h1, SqT.of h2, fun z => h3 ?_, by rw [l1.length, l2.length]; exact h4, fun ew => ?_, fun _ p hp => kk _ _ (.tup S hp (l1.append l2) h5)⟩))
    · have z2 := l1.length
      rw [z] at z2
      exact List.eq_nil_of_length_eq_zero z2.symm
    · subst ew
      cases l2
      rw [List.append_nil] at h5
      exact kk _ _ (.now S (.tup n1 h1 l1) h5)
  · exact h.elim
def rSub : RD := fun x y Q => match x, y with
  | .int i, .int j => Q (.int (i - j))
  | _, _ => False
theorem o_sub : OpD X P g (binaryOp .Sub) rSub := by
  refine ⟨_, op_sub, fun σ H E H0 ss x y dx dy Q K S nx ny h kk => ?_⟩
  unfold rSub at h
  split at h
  · cases nx; cases ny
    exact ⟨_, _, rfl, rfl, kk _ _ (.now S .int h)⟩
  · exact h.elim
theorem DenL.rep {R : Addr → Prop} {vs : List V} {l : List D} (h : DenL P g R H vs l) : ∀ k : Nat, DenL P g R H (List.replicate k vs).flatten (List.replicate k l).flatten
  | 0 => .nil
  | k + 1 => by
    rw [List.replicate_succ, List.replicate_succ, List.flatten_cons, List.flatten_cons]
    exact h.append (DenL.rep h k)
def rMul : RD := fun x y Q => match x, y with
  | .int i, .int j => CMul i j ∧ Q (.int (i * j))
  | .lst l, .int k => (k < 1000000 ∧ -1000000 < k) ∧ l.length * k.toNat ≤ sizeLine ∧ Q (.lst (List.replicate k.toNat l).flatten)
  | .tup l, .int k => l ≠ [] ∧ (2 ≤ k ∧ k ≤ 1000 ∧ l.length ≤ 1000) ∧ Q (.tup (List.replicate k.toNat l).flatten)
  | _, _ => False
theorem o_mul : OpD X P g (binaryOp .Mult) rMul := by
  refine ⟨_, op_mul.or (op_rep.or op_repT), fun σ H E H0 ss x y dx dy Q K S nx ny h kk => ?_⟩
  unfold rMul at h
  split at h
  · cases nx; cases ny
    exact .inl ⟨_, _, rfl, rfl, h.1, kk _ _ (.now S .int h.2)⟩
  · cases ny
    obtain ⟨a, vs, rfl, n1, h1, l1⟩ := nx.of_lst
    exact .inr (.inl ⟨a, _, vs, rfl, rfl, h1, by omega, by omega, by rw [l1.length]; exact h.2.1, fun p hp => kk _ _ (.lst S hp (l1.rep _) h.2.2)⟩)
  · cases ny
    obtain ⟨a, vs, rfl, n1, h1, l1⟩ := nx.of_tup
    obtain ⟨h3, ⟨h4, h5, h6⟩, h7⟩ := h
    refine .inr (.inr ⟨a, _, vs, rfl, rfl, SqT.of h1, fun z => h3 ?_, h4, h5, by rw [l1.length]; exact h6, fun p hp => kk _ _ (.tup S hp (l1.rep _) h7)⟩)
    have z2 := l1.length
    rw [z] at z2
    exact List.eq_nil_of_length_eq_zero z2.symm
  · exact h.elim
def rInt (C : Int → Int → Prop) (f : Int → Int → D) : RD := fun x y Q => match x, y with
  | .int i, .int j => C i j ∧ Q (f i j)
  | _, _ => False
theorem rInt.ok {C : Int → Int → Prop} {f : Int → Int → D} {x y : D} {Q : D → Prop} (h : rInt C f x y Q) : ∃ i j, x = .int i ∧ y = .int j ∧ C i j ∧ Q (f i j) := by
  unfold rInt at h
  split at h
  · exact ⟨_, _, rfl, rfl, h⟩
  · exact h.elim
def rDiv : RD := rInt CDiv fun i j => .int (i / j)
def rMod : RD := rInt (fun _ j => 0 < j) fun i j => .int (i % j)
def rPow : RD := rInt CPow fun i j => .int (i ^ j.toNat)
def rShl : RD := rInt CPow fun i j => .int (i * 2 ^ j.toNat)
def rLt : RD := rInt (fun _ _ => True) fun i j => .bl (decide (i < j))
def rLe : RD := rInt (fun _ _ => True) fun i j => .bl (decide (i ≤ j))
def rGt : RD := rInt (fun _ _ => True) fun i j => .bl (decide (j < i))
def rGe : RD := rInt (fun _ _ => True) fun i j => .bl (decide (j ≤ i))
theorem o_I {f : Value → Value → Sem Value} {C : Int → Int → Prop} {k : Int → Int → Int} (h : OpR X f (rI C fun i j => .int (k i j))) : OpD X P g f (rInt C fun i j => .int (k i j)) := by
  refine ⟨_, h, fun σ H E H0 ss x y dx dy Q K S nx ny h kk => ?_⟩
  obtain ⟨i, j, rfl, rfl, hc, q⟩ := h.ok
  cases nx; cases ny
  exact ⟨_, _, rfl, rfl, hc, kk _ _ (.now S .int q)⟩
theorem o_B {f : Value → Value → Sem Value} {k : Int → Int → Bool} (h : OpR X f (rI0 fun i j => .bl (k i j))) : OpD X P g f (rInt (fun _ _ => True) fun i j => .bl (k i j)) := by
  refine ⟨_, h, fun σ H E H0 ss x y dx dy Q K S nx ny h kk => ?_⟩
  obtain ⟨i, j, rfl, rfl, hc, q⟩ := h.ok
  cases nx; cases ny
  exact ⟨_, _, rfl, rfl, kk _ _ (.now S .bl q)⟩
theorem o_div : OpD X P g (binaryOp .FloorDiv) rDiv := o_I op_fdiv
theorem o_mod : OpD X P g (binaryOp .Mod) rMod := o_I op_mod
theorem o_pow : OpD X P g (binaryOp .Pow) rPow := o_I op_pow
theorem o_shl : OpD X P g (binaryOp .LShift) rShl := o_I op_shl
theorem o_lt : OpD X P g (compareOp .Lt) rLt := o_B op_lt
theorem o_le : OpD X P g (compareOp .LtE) rLe := o_B op_le
theorem o_gt : OpD X P g (compareOp .Gt) rGt := o_B op_gt
theorem o_ge : OpD X P g (compareOp .GtE) rGe := o_B op_ge
/-! ### a < b < c -/
def vChain (r r' : RD) (ta tb tc : TD) : TD := fun ss Q Qx => ta ss (fun x => tb ss (fun y => r x y (isB fun k => match k with | true => tc ss (fun z => r' y z Q) Qx | false => Q (.bl false))) Qx) Qx
theorem d_chain {op op' : CmpOp} {r r' : RD} (ho : OpD X P g (compareOp op) r) (ho' : OpD X P g (compareOp op') r') (ha : DE X P g a ta) (hb : DE X P g b tb) (hc : DE X P g c tc)
    (hm : lastMarks [op, op'] [b, c] = false := by with_unfolding_all rfl) : DE X P g (.Compare a [op, op'] [b, c] pos) (vChain r r' ta tb tc) := by
  obtain ⟨hr, h1, h2⟩ := ho
  obtain ⟨hr', h1', h2'⟩ := ho'
  refine DE.of (pe_chain h1 h1' ha.pe hb.pe hc.pe hm) fun σ H E H0 ss Q Qx S T h => upE.run S T h fun x H1 dx S1 e1 n1 q1 => upE.run S1 T q1 fun y H2 dy S2 e2 n2 q2 => ?_
  refine h2 σ H2 E H0 ss x y dx dy _ _ S2 (den_W e2 n1) n2 q2 fun z H3 ⟨d, S3, e3, n3, q3⟩ => ?_
  obtain ⟨k, rfl, q⟩ := q3.bl
  cases n3
  refine ⟨k, rfl, ?_⟩
  cases k with
  | false => exact iteF ⟨_, S3, (e1.trans e2).trans e3, .bl, q⟩
  | true => exact iteT (upE.run S3 T q fun w H4 dw S4 e4 n4 q4 => h2' σ H4 E H0 ss y w dy dw Q _ S4 (den_W e4 (den_W e3 n2)) n4 q4 fun v H' z => EPD.back (((e1.trans e2).trans e3).trans e4) z)
theorem t_chain {op op' : CmpOp} {r r' : RD} (ho : OpD X P g (compareOp op) r) (ho' : OpD X P g (compareOp op') r') (ha : DE X P g a ta) (hb : DE X P g b tb) (hc : DE X P g c tc)
    (hm : lastMarks [op, op'] [b, c] = false := by with_unfolding_all rfl) : DT X P g (.Compare a [op, op'] [b, c] pos) (vTest (vChain r r' ta tb tc)) := by
  obtain ⟨hr, h1, h2⟩ := ho
  obtain ⟨hr', h1', h2'⟩ := ho'
  refine DT.of (pt_chain h1 h1' ha.pe hb.pe hc.pe hm) fun σ H E H0 ss Q Qx S T h => upE.run S T h fun x H1 dx S1 e1 n1 q1 => upE.run S1 T q1 fun y H2 dy S2 e2 n2 q2 => ?_
  refine h2 σ H2 E H0 ss x y dx dy _ _ S2 (den_W e2 n1) n2 q2 fun z H3 ⟨d, S3, e3, n3, q3⟩ => ?_
  obtain ⟨k, rfl, q⟩ := q3.bl
  cases n3
  refine ⟨k, rfl, ?_⟩
  cases k with
  | false => exact iteF ⟨_, rfl, S3, (e1.trans e2).trans e3, q⟩
  | true => exact iteT (upE.run S3 T q fun w H4 dw S4 e4 n4 q4 => h2' σ H4 E H0 ss y w dy dw _ _ S4 (den_W e4 (den_W e3 n2)) n4 q4 fun v H' ⟨d, S5, e5, n5, q5⟩ => by
      obtain ⟨k, rfl, q⟩ := q5.bl
      cases n5
      exact ⟨k, rfl, S5, (((e1.trans e2).trans e3).trans e4).trans e5, q⟩)
/-! ### plain data: == -/
mutual
def toPy : D → Option PyData
  | .non => some .none
  | .bl b => some (.bool b)
  | .int i => some (.int i)
  | .str x => some (.str x)
  | .tup l => (toPyL l).map .tuple
  | .lst l => (toPyL l).map .list
  | _ => none
def toPyL : List D → Option (List PyData)
  | [] => some []
  | d :: ds => match toPy d, toPyL ds with
    | some p, some ps => some (p :: ps)
    | _, _ => none
end

theorem toPy_dp (K : PySem.W.Frag) {R : Addr → Prop} : ∀ {d : D} {p : PyData} {v : V}, toPy d = some p → Den P g R H v d → Dp K H v p
  | .non, p, v, h, n => by cases n; simp only [toPy] at h; cases h; exact .non
  | .bl _, p, v, h, n => by cases n; simp only [toPy] at h; cases h; exact .bl _
  | .int _, p, v, h, n => by cases n; simp only [toPy] at h; cases h; exact .int _
  | .str _, p, v, h, n => by cases n; simp only [toPy] at h; cases h; exact .str _
  | .tup l, p, v, h, n => by
    simp only [toPy] at h
    obtain ⟨ps, h1, h2⟩ := Option.map_eq_some_iff.mp h
    subst h2
    cases n with
    | tup n' ha hl => exact .tup (SqT.of ha) (go h1 hl)
  | .lst l, p, v, h, n => by
    simp only [toPy] at h
    obtain ⟨ps, h1, h2⟩ := Option.map_eq_some_iff.mp h
    subst h2
    cases n with
    | lst n' ha hl => exact .lst (SqL.of ha) (go h1 hl)
  | .dct _, p, v, h, n => by simp only [toPy] at h; cases h
  | .ins _ _, p, v, h, n => by simp only [toPy] at h; cases h
  | .exc _ _, p, v, h, n => by simp only [toPy] at h; cases h
  | .clo _ _, p, v, h, n => by simp only [toPy] at h; cases h
  | .box _, p, v, h, n => by simp only [toPy] at h; cases h
where
  go : ∀ {ds : List D} {ps : List PyData} {vs : List V}, toPyL ds = some ps → DenL P g R H vs ds → DpAll K H vs ps
  | [], ps, vs, h, n => by simp only [toPyL] at h; cases h; cases n; exact .nil
  | d :: ds, ps, vs, h, n => by
    simp only [toPyL] at h
    cases n with
    | cons n1 n2 =>
      cases e1 : toPy d with
      | none => rw [e1] at h; cases h
      | some p =>
        cases e2 : toPyL ds with
        | none => rw [e1, e2] at h; cases h
        | some qs =>
          rw [e1, e2] at h
          cases h
          exact .cons (toPy_dp K e1 n1) (go e2 n2)
def rEq : RD := fun x y Q => match toPy x, toPy y with
  | some p, some q => SeqAt.shaped p = true ∧ SeqAt.shaped q = true ∧ Q (.bl (PyData.eqv p q))
  | _, _ => False
def rNe : RD := fun x y Q => match toPy x, toPy y with
  | some p, some q => SeqAt.shaped p = true ∧ SeqAt.shaped q = true ∧ Q (.bl (!PyData.eqv p q))
  | _, _ => False
theorem o_eq (hu : X.A.units + 64 < cLine) : OpD X P g (compareOp .Eq) rEq := by
  refine ⟨_, op_eqD hu, fun σ H E H0 ss x y dx dy Q K S nx ny h kk => ?_⟩
  unfold rEq at h
  split at h
  · rename_i p q e1 e2
    exact ⟨p, q, toPy_dp _ e1 nx, toPy_dp _ e2 ny, h.1, h.2.1, kk _ _ (.now S .bl h.2.2)⟩
  · exact h.elim
theorem o_ne (hu : X.A.units + 64 < cLine) : OpD X P g (compareOp .NotEq) rNe := by
  refine ⟨_, op_neD hu, fun σ H E H0 ss x y dx dy Q K S nx ny h kk => ?_⟩
  unfold rNe at h
  split at h
  · rename_i p q e1 e2
    exact ⟨p, q, toPy_dp _ e1 nx, toPy_dp _ e2 ny, h.1, h.2.1, kk _ _ (.now S .bl h.2.2)⟩
  · exact h.elim
/-! ### subscripts -/
theorem DenL.atI {R : Addr → Prop} {vs : List V} {l : List D} {i : Int} {d : D} (h : DenL P g R H vs l) (e : atI l i = some d) : ∃ v, L2.atI vs i = some v ∧ Den P g R H v d := by
  unfold L2.atI at e ⊢
  rw [h.length]
  obtain ⟨j, h1, h2⟩ := Option.bind_eq_some_iff.mp e
  obtain ⟨v, h3, h4⟩ := h.get h2
  exact ⟨v, by rw [h1]; exact h3, h4⟩
def someD (o : Option D) (Q : D → Prop) : Prop := match o with
  | some d => Q d
  | none => False
theorem someD.ok {o : Option D} {Q : D → Prop} (h : someD o Q) : ∃ d, o = some d ∧ Q d := by
  cases o with
  | some d => exact ⟨d, rfl, h⟩
  | none => exact h.elim
def rIx : RD := fun x y Q => match x, y with
  | .lst l, .int i => someD (atI l i) Q
  | .tup l, .int i => someD (atI l i) Q
  | .str z, .int i => z.length ≤ sizeLine ∧ someD ((atI z.cps.toList i).map fun c => .str ⟨#[c]⟩) Q
  | _, _ => False
def vIx (ta tb : TD) : TD := vOp rIx ta tb
theorem d_ix (ha : DE X P g a ta) (hb : DE X P g b tb) (hs : PlainIx b := by exact fun _ _ => rfl) : DE X P g (.Subscript a b pos) (vIx ta tb) :=
  DE.of (pe_ix ix_seq ha.pe hb.pe hs) fun σ H E H0 ss Q Qx S T h => upE.run S T h fun x H1 dx S1 e1 n1 q1 => upE.run S1 T q1 fun y H2 dy S2 e2 n2 q2 => by
    have n1 := den_W e2 n1
    unfold DL.rIx at q2
    split at q2
    · obtain ⟨d, h1, h2⟩ := q2.ok
      obtain ⟨p, vs, rfl, n, ha, l⟩ := n1.of_lst
      cases n2
      obtain ⟨v, h3, h4⟩ := l.atI h1
      exact .inl ⟨p, vs, _, v, rfl, rfl, SqL.of ha, h3, EPD.back (e1.trans e2) (.now S2 h4 h2)⟩
    · obtain ⟨d, h1, h2⟩ := q2.ok
      obtain ⟨p, vs, rfl, n, ha, l⟩ := n1.of_tup
      cases n2
      obtain ⟨v, h3, h4⟩ := l.atI h1
      exact .inr (.inl ⟨p, vs, _, v, rfl, rfl, SqT.of ha, h3, EPD.back (e1.trans e2) (.now S2 h4 h2)⟩)
    · obtain ⟨d, h1, h2⟩ := q2.2.ok
      obtain ⟨k, h3, h4⟩ := Option.map_eq_some_iff.mp h1
      subst h4
      cases n1; cases n2
      exact .inr (.inr ⟨_, _, k, rfl, rfl, q2.1, h3, EPD.back (e1.trans e2) (.now S2 .str h2)⟩)
    · exact q2.elim
/-! ### slices -/
def cutD (l : List D) (lo hi : Option Int) : List D := (l.drop (HT.sIx l.length 0 lo)).take (HT.sIx l.length l.length hi - HT.sIx l.length 0 lo)
theorem DenL.cut {R : Addr → Prop} {vs : List V} {l : List D} (h : DenL P g R H vs l) (lo hi : Option Int) : DenL P g R H (cutV vs lo hi) (cutD l lo hi) := by
  unfold cutV cutD
  rw [h.length]
  exact (h.drop _).take _
abbrev TO' := SS → (Option Int → Prop) → (Err → SS → Prop) → Prop
structure DO (X : Cx) (P : Gl0) (g : G) (e : Option Expr) (t : TO') : Prop where
  po : ∃ to : TO, PO X e to ∧ ∀ (σ : St) (H : Hp) (E : Ex) (H0 : Hp) (ss : SS) (Q : Option Int → Prop) (Qx : Err → SS → Prop) (K : Option Int → Hp → Prop), Stt P g E H0 ss σ H → TX X P g E H0 Qx → t ss Q Qx →
    (∀ i H', Stt P g E H0 ss σ H' → Ext g.W H H' → Q i → K i H') → to σ H K
def vNoPart : TO' := fun _ Q _ => Q none
def isI (Q : Option Int → Prop) : D → Prop
  | .int i => Q (some i)
  | _ => False
def vPart (ta : TD) : TO' := fun ss Q Qx => ta ss (isI Q) Qx
theorem do_none : DO X P g none vNoPart := ⟨_, po_none, fun σ H E H0 ss Q Qx K S T h k => k none H S (Ext.refl _ _) h⟩
theorem do_some (h : DE X P g e ta) : DO X P g (some e) (vPart ta) := ⟨_, po_some h.pe, fun σ H E H0 ss Q Qx K S T h k => upE.run S T h fun v H' d S' e' n q => by
  cases d with
  | int i => cases n; exact ⟨i, rfl, k _ _ S' e' q⟩
  | _ => exact q.elim⟩
def rSl : D → Option Int → Option Int → (D → Prop) → Prop := fun x lo hi Q => match x with
  | .lst l => Q (.lst (cutD l lo hi))
  | .tup l => (¬ (HT.sIx l.length 0 lo = 0 ∧ HT.sIx l.length l.length hi = l.length)) ∧ Q (.tup (cutD l lo hi))
  | .str z => z.length ≤ sizeLine ∧ Q (.str (cutS z lo hi))
  | _ => False
def vSl (ta : TD) (tl th : TO') : TD := fun ss Q Qx => ta ss (fun x => tl ss (fun l => th ss (fun h => rSl x l h Q) Qx) Qx) Qx
theorem d_slice {lo hi : Option Expr} {tl th : TO'} {p2 : Pos} (ha : DE X P g a ta) (hl : DO X P g lo tl) (hh : DO X P g hi th) : DE X P g (.Subscript a (.Slice lo hi none p2) pos) (vSl ta tl th) := by
  obtain ⟨l1, l2, l3⟩ := hl
  obtain ⟨h1, h2, h3⟩ := hh
  refine DE.of (pe_slice (sl_list.or (sl_tup.or sl_str)) ha.pe l2 h2) fun σ H E H0 ss Q Qx S T h => upE.run S T h fun x H1 dx S1 e1 n1 q1 => ?_
  refine l3 σ H1 E H0 ss _ Qx _ S1 T q1 fun i H2 S2 e2 q2 => h3 σ H2 E H0 ss _ Qx _ S2 T q2 fun j H3 S3 e3 q3 => ?_
  have n1 := den_W e3 (den_W e2 n1)
  have ee := (e1.trans e2).trans e3
  unfold rSl at q3
  split at q3
  · obtain ⟨p, vs, rfl, n, hp, l⟩ := n1.of_lst
    exact .inl ⟨p, vs, rfl, SqL.of hp, fun p' hp' => EPD.back ee (.lst S3 hp' (l.cut i j) q3)⟩
  · obtain ⟨p, vs, rfl, n, hp, l⟩ := n1.of_tup
    exact .inr (.inl ⟨p, vs, rfl, SqT.of hp, by rw [l.length]; exact q3.1, fun p' hp' => EPD.back ee (.tup S3 hp' (l.cut i j) q3.2)⟩)
  · cases n1
    exact .inr (.inr ⟨_, rfl, q3.1, EPD.back ee (.now S3 .str q3.2)⟩)
  · exact q3.elim
/-! ### built-ins called by their names -/
def CallD (X : Cx) (P : Gl0) (g : G) (f : Value) (r : List D → (D → Prop) → Prop) : Prop :=
  ∃ hr : List V → Hp → VK → Prop, CallR X f hr ∧ ∀ (σ : St) (H : Hp) (E : Ex) (H0 : Hp) (ss : SS) (vs : List V) (ds : List D) (Q : D → Prop) (K : VK), Stt P g E H0 ss σ H → DenL P g (Rg g E σ ss) H vs ds → r ds Q → (∀ v H', EPD P g E H0 ss σ H Q v H' → K v H') → hr vs H K
theorem CallD.or {f : Value} {r r' : List D → (D → Prop) → Prop} (h : CallD X P g f r) (h' : CallD X P g f r') : CallD X P g f (fun ds Q => r ds Q ∨ r' ds Q) := by
  obtain ⟨a, b, c⟩ := h
  obtain ⟨a', b', c'⟩ := h'
  exact ⟨_, b.or b', fun σ H E H0 ss vs ds Q K S n q k => q.elim (fun q => .inl (c σ H E H0 ss vs ds Q K S n q k)) fun q => .inr (c' σ H E H0 ss vs ds Q K S n q k)⟩
theorem CallD.imp {f : Value} {r r' : List D → (D → Prop) → Prop} (h : CallD X P g f r) (i : ∀ ds Q, r' ds Q → r ds Q) : CallD X P g f r' := by
  obtain ⟨a, b, c⟩ := h
  exact ⟨a, b, fun σ H E H0 ss vs ds Q K S n q k => c σ H E H0 ss vs ds Q K S n (i ds Q q) k⟩
def vCB (r : List D → (D → Prop) → Prop) (tl : TL) : TD := fun ss Q Qx => tl ss (fun ds => r ds Q) Qx
theorem d_callB {id : String} {r : List D → (D → Prop) → Prop} {x : Str} {p : Pos} (hc : CallD X P g (.builtin id) r) (hg : Gl X x) (hm : X.mg x = none) (hv : bootBuiltins x = some (.builtin id)) (ha : DA X P g (e :: es) tl) (hn : x ≠ "__name__" := by decide) (hdb : (x == ("__debug__" : Str)) = false := by decide)
    (he : starEach (e :: es) X.env = (false, eval e X.env) :: starEach es X.env := by rfl) (hpl : (backTo pos (starEach es X.env)).any (·.1) = false := by rfl) : DE X P g (.Call (.Name x p) (e :: es) [] pos) (vCB r tl) := by
  obtain ⟨hr, h1, h2⟩ := hc
  exact DE.of (pe_callB h1 hg hm hv ha.pa hn hdb he hpl) fun σ H E H0 ss Q Qx S T h => upA.run S T h fun vs H' ds S' e' ns q => h2 σ H' E H0 ss vs ds Q _ S' ns q fun v H' z => EPD.back e' z
theorem d_callTy {T : String} {r : List D → (D → Prop) → Prop} {x : Str} {p : Pos} (hc : CallD X P g (.type T) r) (hg : Gl X x) (hm : X.mg x = none) (hv : bootBuiltins x = some (.type T)) (ha : DA X P g (e :: es) tl) (hn : x ≠ "__name__" := by decide) (hdb : (x == ("__debug__" : Str)) = false := by decide)
    (he : starEach (e :: es) X.env = (false, eval e X.env) :: starEach es X.env := by rfl) (hpl : (backTo pos (starEach es X.env)).any (·.1) = false := by rfl) : DE X P g (.Call (.Name x p) (e :: es) [] pos) (vCB r tl) := by
  obtain ⟨hr, h1, h2⟩ := hc
  exact DE.of (pe_callTy h1 hg hm hv ha.pa hn hdb he hpl) fun σ H E H0 ss Q Qx S T h => upA.run S T h fun vs H' ds S' e' ns q => h2 σ H' E H0 ss vs ds Q _ S' ns q fun v H' z => EPD.back e' z
theorem DenL.one {R : Addr → Prop} {vs : List V} {d : D} (h : DenL P g R H vs [d]) : ∃ v, vs = [v] ∧ Den P g R H v d := by
  cases h with
  | cons h t => cases t; exact ⟨_, rfl, h⟩
theorem DenL.two {R : Addr → Prop} {vs : List V} {d e : D} (h : DenL P g R H vs [d, e]) : ∃ v w, vs = [v, w] ∧ Den P g R H v d ∧ Den P g R H w e := by
  cases h with
  | cons h t => obtain ⟨w, rfl, h2⟩ := t.one; exact ⟨_, w, rfl, h, h2⟩
def rLen : List D → (D → Prop) → Prop
  | [.lst l], Q => Q (.int l.length)
  | [.tup l], Q => Q (.int l.length)
  | [.str z], Q => z.length ≤ sizeLine ∧ Q (.int z.length)
  | _, _ => False
theorem c_len : CallD X P g (.builtin "len") rLen := by
  refine ⟨_, call_len_seq.or call_len_str, fun σ H E H0 ss vs ds Q K S n q k => ?_⟩
  unfold rLen at q
  split at q
  · obtain ⟨v, rfl, m⟩ := n.one
    obtain ⟨p, vs, rfl, n, hp, l⟩ := m.of_lst
    exact .inl ⟨p, vs, rfl, .inl (SqL.of hp), k _ _ (.now S .int (by rw [l.length]; exact q))⟩
  · obtain ⟨v, rfl, m⟩ := n.one
    obtain ⟨p, vs, rfl, n, hp, l⟩ := m.of_tup
    exact .inl ⟨p, vs, rfl, .inr (SqT.of hp), k _ _ (.now S .int (by rw [l.length]; exact q))⟩
  · obtain ⟨v, rfl, m⟩ := n.one
    cases m
    exact .inr ⟨_, rfl, q.1, k _ _ (.now S .int q.2)⟩
  · exact q.elim
def rAbs : List D → (D → Prop) → Prop
  | [.int i], Q => Q (.int (if i < 0 then -i else i))
  | _, _ => False
theorem c_abs : CallD X P g (.builtin "abs") rAbs := by
  refine ⟨_, call_abs, fun σ H E H0 ss vs ds Q K S n q k => ?_⟩
  unfold rAbs at q
  split at q
  · obtain ⟨v, rfl, m⟩ := n.one
    cases m
    exact ⟨_, rfl, k _ _ (.now S .int q)⟩
  · exact q.elim
def rMax2 : List D → (D → Prop) → Prop
  | [.int i, .int j], Q => Q (.int (if j > i then j else i))
  | _, _ => False
def rMin2 : List D → (D → Prop) → Prop
  | [.int i, .int j], Q => Q (.int (if j < i then j else i))
  | _, _ => False
theorem c_max2 (hc : X.calm = true) : CallD X P g (.builtin "max") rMax2 := by
  refine ⟨_, call_max2 hc, fun σ H E H0 ss vs ds Q K S n q k => ?_⟩
  unfold rMax2 at q
  split at q
  · obtain ⟨v, w, rfl, n1, n2⟩ := n.two
    cases n1; cases n2
    exact ⟨_, _, rfl, k _ _ (.now S .int q)⟩
  · exact q.elim
theorem c_min2 (hc : X.calm = true) : CallD X P g (.builtin "min") rMin2 := by
  refine ⟨_, call_min2 hc, fun σ H E H0 ss vs ds Q K S n q k => ?_⟩
  unfold rMin2 at q
  split at q
  · obtain ⟨v, w, rfl, n1, n2⟩ := n.two
    cases n1; cases n2
    exact ⟨_, _, rfl, k _ _ (.now S .int q)⟩
  · exact q.elim
def rIntOf : List D → (D → Prop) → Prop
  | [.int i], Q => Q (.int i)
  | [.bl b], Q => Q (.int (if b then 1 else 0))
  | _, _ => False
theorem c_int : CallD X P g (.type "int") rIntOf := by
  refine ⟨_, call_int1, fun σ H E H0 ss vs ds Q K S n q k => ?_⟩
  unfold rIntOf at q
  split at q
  · obtain ⟨v, rfl, m⟩ := n.one
    cases m
    exact .inl ⟨_, rfl, k _ _ (.now S .int q)⟩
  · obtain ⟨v, rfl, m⟩ := n.one
    cases m
    exact .inr ⟨_, rfl, k _ _ (.now S .int q)⟩
  · exact q.elim
def rListOf : List D → (D → Prop) → Prop
  | [.lst l], Q => Q (.lst l)
  | [.tup l], Q => Q (.lst l)
  | _, _ => False
theorem c_list : CallD X P g (.type "list") rListOf := by
  refine ⟨_, call_list_of, fun σ H E H0 ss vs ds Q K S n q k => ?_⟩
  unfold rListOf at q
  split at q
  · obtain ⟨v, rfl, m⟩ := n.one
    obtain ⟨p, vs, rfl, n, hp, l⟩ := m.of_lst
    exact ⟨p, vs, rfl, .inl (SqL.of hp), fun p' hp' => k _ _ (.lst S hp' l q)⟩
  · obtain ⟨v, rfl, m⟩ := n.one
    obtain ⟨p, vs, rfl, n, hp, l⟩ := m.of_tup
    exact ⟨p, vs, rfl, .inr (SqT.of hp), fun p' hp' => k _ _ (.lst S hp' l q)⟩
  · exact q.elim
def rTupleOf : List D → (D → Prop) → Prop
  | [.lst l], Q => Q (.tup l)
  | [.tup l], Q => Q (.tup l)
  | _, _ => False
theorem c_tuple : CallD X P g (.type "tuple") rTupleOf := by
  refine ⟨_, call_tuple_of, fun σ H E H0 ss vs ds Q K S n q k => ?_⟩
  unfold rTupleOf at q
  split at q
  · obtain ⟨v, rfl, m⟩ := n.one
    obtain ⟨p, vs, rfl, n, hp, l⟩ := m.of_lst
    exact ⟨p, vs, rfl, .inl ⟨SqL.of hp, fun p' hp' => k _ _ (.tup S hp' l q)⟩⟩
  · obtain ⟨v, rfl, m⟩ := n.one
    obtain ⟨p, vs, rfl, n, hp, l⟩ := m.of_tup
    exact ⟨p, vs, rfl, .inr ⟨SqT.of hp, k _ _ (.now S (.tup n hp l) q)⟩⟩
  · exact q.elim
def rAllD : List D → (D → Prop) → Prop := fun ds Q => ∃ bs : List Bool, ds = [.lst (bs.map .bl)] ∧ Q (.bl (bs.all id))
def rAnyD : List D → (D → Prop) → Prop := fun ds Q => ∃ bs : List Bool, ds = [.lst (bs.map .bl)] ∧ Q (.bl (bs.any id))
def rSumD : List D → (D → Prop) → Prop := fun ds Q => ∃ ns : List Int, ds = [.lst (ns.map .int)] ∧ Q (.int ns.sum)
theorem c_all (hc : X.calm = true) : CallD X P g (.builtin "all") rAllD := by
  refine ⟨_, cr_all hc, fun σ H E H0 ss vs ds Q K S n q k => ?_⟩
  obtain ⟨bs, rfl, q⟩ := q
  obtain ⟨v, rfl, m⟩ := n.one
  obtain ⟨p, vs, rfl, n, hp, l⟩ := m.of_lst
  have e := l.bls
  subst e
  exact ⟨p, bs, rfl, SqL.of hp, k _ _ (.now S .bl q)⟩
theorem c_any (hc : X.calm = true) : CallD X P g (.builtin "any") rAnyD := by
  refine ⟨_, cr_any hc, fun σ H E H0 ss vs ds Q K S n q k => ?_⟩
  obtain ⟨bs, rfl, q⟩ := q
  obtain ⟨v, rfl, m⟩ := n.one
  obtain ⟨p, vs, rfl, n, hp, l⟩ := m.of_lst
  have e := l.bls
  subst e
  exact ⟨p, bs, rfl, SqL.of hp, k _ _ (.now S .bl q)⟩
theorem c_sum (hc : X.calm = true) : CallD X P g (.builtin "sum") rSumD := by
  refine ⟨_, cr_sum hc, fun σ H E H0 ss vs ds Q K S n q k => ?_⟩
  obtain ⟨ns, rfl, q⟩ := q
  obtain ⟨v, rfl, m⟩ := n.one
  obtain ⟨p, vs, rfl, n, hp, l⟩ := m.of_lst
  have e := l.ints
  subst e
  exact ⟨p, ns, rfl, SqL.of hp, k _ _ (.now S .int q)⟩
end
end DL

set_option maxRecDepth 100000
set_option maxHeartbeats 4000000
namespace DL
open PySem L2 LamX NdefX

section
variable {X : Cx} {P : Gl0} {g : G} {a b c e : Expr} {es : List Expr} {ta tb tc : TD} {tt uu : TB} {tl : TL} {pos : Pos}
variable {E E' : Ex} {H0 H H1 H' : Hp} {ss ss' : SS} {σ σ' : St}

/-! ### slots that change -/
theorem set_get {α : Type} {l : List α} {i j : Nat} {x y : α} (h : (l.set i x)[j]? = some y) : (j = i ∧ y = x) ∨ (j ≠ i ∧ l[j]? = some y) := by
  by_cases e : i = j
  · subst e
    rw [List.getElem?_set] at h
    simp only [if_true] at h
    split at h
    · exact .inl ⟨rfl, (Option.some.inj h).symm⟩
    · cases h
  · rw [List.getElem?_set_ne e] at h
    exact .inr ⟨fun z => e z.symm, h⟩
theorem get_set_ne {α : Type} {l : List α} {i j : Nat} {x : α} (e : j ≠ i) : (l.set i x)[j]? = l[j]? := List.getElem?_set_ne (fun z => e z.symm)
theorem ownA_setV {i : Nat} {v : Option V} {s : Sl} (hs : ∀ d, s ≠ .own d) {x : Addr} (h : ownA (σ.set i v) (ss.set i s) x) : ownA σ ss x := by
  obtain ⟨j, d, h1, h2⟩ := h
  rcases set_get h1 with ⟨_, q⟩ | ⟨q, h1⟩
  · exact (hs d q.symm).elim
  · rw [get_set_ne q] at h2
    exact ⟨j, d, h1, h2⟩
theorem Rg_setV {i : Nat} {v : Option V} {s : Sl} (hs : ∀ d, s ≠ .own d) {x : Addr} (h : Rg g E (σ.set i v) (ss.set i s) x) : Rg g E σ ss x := by
  rcases h with h | h | h
  · exact .inl h
  · exact .inr (.inl h)
  · exact .inr (.inr (ownA_setV hs h))
theorem SG.sub {R R' : Addr → Prop} (h : ∀ a, R' a → R a) (s : SG P g R H) : SG P g R' H := ⟨s.tabs, s.inv, fun a r => s.trk a (h a r)⟩
/-- a slot gets a value that may be told -/
theorem Stt.set (S : Stt P g E H0 ss σ H) (i : Nat) {v : V} {d : D} (n : Den P g (Rg g E σ ss) H v d) : Stt P g E H0 (ss.set i (.v d)) (σ.set i (some v)) H := by
  have hs : ∀ x, Rg g E (σ.set i (some v)) (ss.set i (.v d)) x → Rg g E σ ss x := fun x => Rg_setV (fun d z => by cases z)
  refine ⟨S.sg.sub hs, E.hz _ _ _ _ (fun a o n q t => ⟨q, fun r => n (hs a r)⟩) S.pin, S.grow, by rw [List.length_set, List.length_set]; exact S.len, fun j d' h => ?_, fun j d' h => ?_, fun j k d1 d2 x h1 h2 h3 h4 => ?_⟩
  · rcases set_get h with ⟨q, e⟩ | ⟨q, h⟩
    · cases e
      subst q
      have hl : j < σ.length := by
        have := (List.getElem?_eq_some_iff.mp h).1
        rw [List.length_set, S.len] at this
        exact this
      exact ⟨v, List.getElem?_set_self hl, Den.mv (Mv.sub hs) n⟩
    · obtain ⟨w, h1, h2⟩ := S.val j d' h
      exact ⟨w, by rw [get_set_ne q]; exact h1, Den.mv (Mv.sub hs) h2⟩
  · rcases set_get h with ⟨q, e⟩ | ⟨q, h⟩
    · cases e
    · obtain ⟨p, h1, h2, h3, h4, h5⟩ := S.own j d' h
      exact ⟨p, by rw [get_set_ne q]; exact h1, h2, h3, h4, h5.mv (Mv.sub hs) fun o z _ => z⟩
  · rcases set_get h1 with ⟨q, e⟩ | ⟨q, h1⟩
    · cases e
    · rcases set_get h2 with ⟨q', e⟩ | ⟨q', h2⟩
      · cases e
      · rw [get_set_ne q] at h3
        rw [get_set_ne q'] at h4
        exact S.uniq j k d1 d2 x h1 h2 h3 h4
/-- a slot is forgotten -/
theorem Stt.wipe1 (S : Stt P g E H0 ss σ H) (i : Nat) {v : Option V} : Stt P g E H0 (ss.set i .u) (σ.set i v) H := by
  have hs : ∀ x, Rg g E (σ.set i v) (ss.set i .u) x → Rg g E σ ss x := fun x => Rg_setV (fun d z => by cases z)
  refine ⟨S.sg.sub hs, E.hz _ _ _ _ (fun a o n q t => ⟨q, fun r => n (hs a r)⟩) S.pin, S.grow, by rw [List.length_set, List.length_set]; exact S.len, fun j d' h => ?_, fun j d' h => ?_, fun j k d1 d2 x h1 h2 h3 h4 => ?_⟩
  · rcases set_get h with ⟨q, e⟩ | ⟨q, h⟩
    · cases e
    · obtain ⟨w, h1, h2⟩ := S.val j d' h
      exact ⟨w, by rw [get_set_ne q]; exact h1, Den.mv (Mv.sub hs) h2⟩
  · rcases set_get h with ⟨q, e⟩ | ⟨q, h⟩
    · cases e
    · obtain ⟨p, h1, h2, h3, h4, h5⟩ := S.own j d' h
      exact ⟨p, by rw [get_set_ne q]; exact h1, h2, h3, h4, h5.mv (Mv.sub hs) fun o z _ => z⟩
  · rcases set_get h1 with ⟨q, e⟩ | ⟨q, h1⟩
    · cases e
    · rcases set_get h2 with ⟨q', e⟩ | ⟨q', h2⟩
      · cases e
      · rw [get_set_ne q] at h3
        rw [get_set_ne q'] at h4
        exact S.uniq j k d1 d2 x h1 h2 h3 h4
/-- a slot gets an object of its own, just made -/
theorem Stt.setOwn (S : Stt P g E H0 ss σ H) (i : Nat) {p : Addr} {o : HO} {d : D} (hp : H p = none) (no : NT o) (c : ∀ (R' : Addr → Prop) (H' : Hp), Mv g g (Rg g E σ ss) R' H H' → H' p = some o → Cont P g R' H' p d) : Stt P g E H0 (ss.set i (.own d)) (σ.set i (some (.ref p))) (upd H p o) := by
  have hs : ∀ x, Rg g E (σ.set i (some (.ref p))) (ss.set i (.own d)) x → Rg g E σ ss x ∨ x = p := fun x h => by
    rcases h with h | h | ⟨j, d', h1, h2⟩
    · exact .inl (.inl h)
    · exact .inl (.inr (.inl h))
    · rcases set_get h1 with ⟨q, e⟩ | ⟨q, h1⟩
      · rcases set_get h2 with ⟨_, e2⟩ | ⟨q2, _⟩
        · cases e2; exact .inr rfl
        · exact (q2 q).elim
      · rw [get_set_ne q] at h2
        exact .inl (.inr (.inr ⟨j, d', h1, h2⟩))
  have S' := S.new (p := p) (o := o) hp
  have mv : Mv g g (Rg g E σ ss) (Rg g E (σ.set i (some (.ref p))) (ss.set i (.own d))) H (upd H p o) := ⟨fun a u n q t => ⟨by rw [upd_ne (ne_of_none q hp)]; exact q, fun r => (hs a r).elim n (ne_of_none q hp)⟩, fun _ _ b => b⟩
  have np : ∀ x, Rg g E σ ss x → x ≠ p := fun x r z => by
    obtain ⟨u, q, _⟩ := S.sg.trk x r
    rw [z, hp] at q; cases q
  have fp : ¬ Rg g E σ ss p := fun r => np p r rfl
  -- contents are told of things that stood
  have cmv : ∀ {q : Addr} {d' : D}, Cont P g (Rg g E σ ss) H q d' → Cont P g (Rg g E (σ.set i (some (.ref p))) (ss.set i (.own d))) (upd H p o) q d' := fun {q d'} c => c.mv mv fun u z _ => by rw [upd_ne (ne_of_none z hp)]; exact z
  refine ⟨⟨S'.sg.tabs, S'.sg.inv, fun a r => (hs a r).elim (fun r => S'.sg.trk a r) fun z => ⟨o, by rw [z, upd_same], no⟩⟩, E.hz _ _ _ _ mv.at_ S.pin, S'.grow, by rw [List.length_set, List.length_set]; exact S.len, fun j d' h => ?_, fun j d' h => ?_, fun j k d1 d2 x h1 h2 h3 h4 => ?_⟩
  · rcases set_get h with ⟨q, e⟩ | ⟨q, h⟩
    · cases e
    · obtain ⟨w, h1, h2⟩ := S.val j d' h
      exact ⟨w, by rw [get_set_ne q]; exact h1, Den.mv mv h2⟩
  · rcases set_get h with ⟨q, e⟩ | ⟨q, h⟩
    · cases e
      subst q
      have hl : j < σ.length := by
        have := (List.getElem?_eq_some_iff.mp h).1
        rw [List.length_set, S.len] at this
        exact this
      refine ⟨p, List.getElem?_set_self hl, S.fresh0 hp, fun m => fp (.inl m), fun m => fp (.inr (.inl m)), c _ _ mv upd_same⟩
    · obtain ⟨p', h1, h2, h3, h4, h5⟩ := S.own j d' h
      exact ⟨p', by rw [get_set_ne q]; exact h1, h2, h3, h4, cmv h5⟩
  · rcases set_get h1 with ⟨q, e⟩ | ⟨q, h1⟩
    · rcases set_get h2 with ⟨q', e'⟩ | ⟨q', h2⟩
      · rw [q, q']
      · rcases set_get h3 with ⟨_, e3⟩ | ⟨q3, _⟩
        · cases e3
          rw [get_set_ne q'] at h4
          exact (fp (.inr (.inr ⟨k, d2, h2, h4⟩))).elim
        · exact (q3 q).elim
    · rcases set_get h2 with ⟨q', e'⟩ | ⟨q', h2⟩
      · rcases set_get h4 with ⟨_, e3⟩ | ⟨q3, _⟩
        · cases e3
          rw [get_set_ne q] at h3
          exact (fp (.inr (.inr ⟨j, d1, h1, h3⟩))).elim
        · exact (q3 q').elim
      · rw [get_set_ne q] at h3
        rw [get_set_ne q'] at h4
        exact S.uniq j k d1 d2 x h1 h2 h3 h4
/-- an object of one's own changes -/
theorem Stt.chg (S : Stt P g E H0 ss σ H) {i : Nat} {p : Addr} {o : HO} {d d' : D} (hi : ss[i]? = some (.own d)) (hp : σ[i]? = some (some (.ref p))) (no : NT o) (c : ∀ H', (∀ a u, ¬ Rg g E σ ss a → H a = some u → NT u → H' a = some u) → H' p = some o → Cont P g (Rg g E σ ss) H' p d') :
    Stt P g E H0 (ss.set i (.own d')) σ (upd H p o) := by
  obtain ⟨p1, e1, f0, nM, nE, c1⟩ := S.own i d hi
  rw [hp] at e1
  cases e1
  have hl : i < ss.length := (List.getElem?_eq_some_iff.mp hi).1
  have ow : ∀ x, ownA σ (ss.set i (.own d')) x ↔ ownA σ ss x := fun x => by
    constructor
    · rintro ⟨j, e, h1, h2⟩
      rcases set_get h1 with ⟨q, z⟩ | ⟨q, h1⟩
      · subst q; exact ⟨j, d, hi, h2⟩
      · exact ⟨j, e, h1, h2⟩
    · rintro ⟨j, e, h1, h2⟩
      by_cases q : j = i
      · subst q; exact ⟨j, d', List.getElem?_set_self hl, h2⟩
      · exact ⟨j, e, by rw [get_set_ne q]; exact h1, h2⟩
  have rg : Rg g E σ (ss.set i (.own d')) = Rg g E σ ss := by
    funext x
    unfold Rg
    rw [propext (ow x)]
  have inR : Rg g E σ ss p := .inr (.inr ⟨i, d, hi, hp⟩)
  have kp : ∀ a u, ¬ Rg g E σ ss a → H a = some u → NT u → upd H p o a = some u := fun a u n q _ => by rw [upd_ne (fun z => n (by rw [z]; exact inR))]; exact q
  have mv : Mv g g (Rg g E σ ss) (Rg g E σ ss) H (upd H p o) := ⟨fun a u n q t => ⟨kp a u n q t, n⟩, fun _ _ b => b⟩
  have hpH := c1.there
  obtain ⟨op, hop, nop⟩ := hpH
  have nW : ¬ g.W p := fun w => nM (g.hW p w)
  refine ⟨?_, ?_, ?_, by rw [List.length_set]; exact S.len, fun j e h => ?_, fun j e h => ?_, fun j k d1 d2 x h1 h2 h3 h4 => ?_⟩
  · rw [rg]
    refine ⟨fun q hq => ?_, g.hinv _ _ (fun a u w q => by rw [upd_ne (fun z => nW (by rw [← z]; exact w))]; exact q) S.sg.inv, fun a r => ?_⟩
    · obtain ⟨ps, q1, q2, q3⟩ := S.sg.tabs q hq
      have ne : ∀ {b : Addr} {u : HO}, H b = some u → (∃ ps, u = .tbl ps) ∨ (∃ φ, u = .ext φ) → b ≠ p := fun {b u} hb hu z => by
        rw [z] at hb
        rw [hop] at hb
        cases hb
        cases c1 with
        | lst h _ => rw [hop] at h; cases h; rcases hu with ⟨_, q⟩ | ⟨_, q⟩ <;> cases q
        | dK h _ _ => rw [hop] at h; cases h; rcases hu with ⟨_, q⟩ | ⟨_, q⟩ <;> cases q
        | dT h _ _ => rw [hop] at h; cases h; rcases hu with ⟨_, q⟩ | ⟨_, q⟩ <;> cases q
      refine ⟨ps, by rw [upd_ne (ne q1 (.inl ⟨ps, rfl⟩))]; exact q1, q2, fun pos cv hc => ?_⟩
      obtain ⟨c', e1, e2⟩ := q3 pos cv hc
      exact ⟨c', e1, by rw [upd_ne (ne e2 (.inr ⟨_, rfl⟩))]; exact e2⟩
    · by_cases z : a = p
      · exact ⟨o, by rw [z, upd_same], no⟩
      · obtain ⟨u, q, n⟩ := S.sg.trk a r
        exact ⟨u, by rw [upd_ne z]; exact q, n⟩
  · rw [rg]
    exact E.hz _ _ _ _ mv.at_ S.pin
  · exact S.grow.mut f0
  · rcases set_get h with ⟨q, z⟩ | ⟨q, h⟩
    · cases z
    · obtain ⟨w, h1, h2⟩ := S.val j e h
      rw [rg]
      exact ⟨w, h1, Den.mv mv h2⟩
  · rw [rg]
    rcases set_get h with ⟨q, z⟩ | ⟨q, h⟩
    · cases z
      subst q
      exact ⟨p, hp, f0, nM, nE, c _ kp upd_same⟩
    · obtain ⟨p', h1, h2, h3, h4, h5⟩ := S.own j e h
      refine ⟨p', h1, h2, h3, h4, h5.mv mv fun u z _ => ?_⟩
      rw [upd_ne (fun y => q (S.uniq j i e d p h hi (by rw [← y]; exact h1) hp))]
      exact z
  · have old : ∀ {j : Nat} {d1 : D}, (ss.set i (.own d'))[j]? = some (.own d1) → ∃ d2, ss[j]? = some (.own d2) := fun {j d1} h => by
      rcases set_get h with ⟨q, _⟩ | ⟨_, h⟩
      · subst q; exact ⟨d, hi⟩
      · exact ⟨d1, h⟩
    obtain ⟨e1, h1⟩ := old h1
    obtain ⟨e2, h2⟩ := old h2
    exact S.uniq j k e1 e2 x h1 h2 h3 h4
/-- an object of one's own is told of from now on -/
def frz1 (i : Nat) (ss : SS) : SS := match ss[i]? with
  | some (.own d) => ss.set i (.v d)
  | _ => ss
def frz : List Nat → SS → SS
  | [], ss => ss
  | i :: is, ss => frz is (frz1 i ss)
theorem Stt.frz1 (S : Stt P g E H0 ss σ H) (i : Nat) : Stt P g E H0 (DL.frz1 i ss) σ H := by
  unfold DL.frz1
  split
  · rename_i d hi
    obtain ⟨p, e1, f0, nM, nE, c1⟩ := S.own i d hi
    have hl : i < σ.length := (List.getElem?_eq_some_iff.mp e1).1
    have es : σ.set i (some (.ref p)) = σ := by
      apply List.ext_getElem?
      intro j
      by_cases q : j = i
      · subst q; rw [List.getElem?_set_self hl, e1]
      · rw [get_set_ne q]
    have hs : ∀ x, Rg g E σ (ss.set i (.v d)) x → Rg g E σ ss x := fun x h => by
      have h' : Rg g E (σ.set i (some (.ref p))) (ss.set i (.v d)) x := by rw [es]; exact h
      exact Rg_setV (fun d z => by cases z) h'
    have np : ¬ Rg g E σ (ss.set i (.v d)) p := fun r => by
      rcases r with r | r | ⟨j, e, h1, h2⟩
      · exact nM r
      · exact nE r
      · rcases set_get h1 with ⟨_, z⟩ | ⟨q, h1⟩
        · cases z
        · exact q (S.uniq j i e d p h1 hi h2 e1)
    refine ⟨S.sg.sub hs, E.hz _ _ _ _ (fun a o n q t => ⟨q, fun r => n (hs a r)⟩) S.pin, S.grow, by rw [List.length_set]; exact S.len, fun j d' h => ?_, fun j d' h => ?_, fun j k d1 d2 x h1 h2 h3 h4 => ?_⟩
    · rcases set_get h with ⟨q, z⟩ | ⟨q, h⟩
      · cases z
        subst q
        exact ⟨_, e1, (c1.mv (Mv.sub hs) fun o z _ => z).den np⟩
      · obtain ⟨w, h1, h2⟩ := S.val j d' h
        exact ⟨w, h1, Den.mv (Mv.sub hs) h2⟩
    · rcases set_get h with ⟨q, z⟩ | ⟨q, h⟩
      · cases z
      · obtain ⟨p', h1, h2, h3, h4, h5⟩ := S.own j d' h
        exact ⟨p', h1, h2, h3, h4, h5.mv (Mv.sub hs) fun o z _ => z⟩
    · rcases set_get h1 with ⟨_, z⟩ | ⟨_, h1⟩
      · cases z
      · rcases set_get h2 with ⟨_, z⟩ | ⟨_, h2⟩
        · cases z
        · exact S.uniq j k d1 d2 x h1 h2 h3 h4
  · exact S
theorem Stt.frz : ∀ {is : List Nat} {ss : SS}, Stt P g E H0 ss σ H → Stt P g E H0 (DL.frz is ss) σ H
  | [], _, S => S
  | i :: is, ss, S => Stt.frz (is := is) (ss := DL.frz1 i ss) (S.frz1 i)
end
end DL

set_option maxRecDepth 100000
set_option maxHeartbeats 4000000
namespace DL
open PySem L2 LamX NdefX

section
variable {X : Cx} {P : Gl0} {g : G} {a b c e : Expr} {es : List Expr} {ta tb tc : TD} {tt uu : TB} {tl : TL} {ts us : TSt} {pos : Pos} {st : Stmt} {rest : List Stmt}
variable {E E' : Ex} {H0 H H1 H' : Hp} {ss ss' : SS} {σ σ' : St}

/-! ### blocks -/
def vNext : TSt := fun N ss => N.nx ss
def vSeq (t u : TSt) : TSt := fun N ss => t { N with nx := u N } ss
def vBreak : TSt := fun N ss => N.bk ss
def vCont : TSt := fun N ss => N.ct ss
theorem ss_nil : DSs X P g [] vNext := DSs.of pss_nil fun σ H E H0 ss N S T h => ⟨ss, S, h⟩
theorem ss_cons (h1 : DS X P g st ts) (h2 : DSs X P g rest us) : DSs X P g (st :: rest) (vSeq ts us) :=
  DSs.of (pss_cons h1.ps h2.pss) fun σ H E H0 ss N S T h => upS.run (N := { N with nx := us N }) S T h (fun σ' H' ⟨ss', S', h'⟩ => upS.run (N := N) S' T h' (fun _ _ z => z) (fun _ _ z => z) (fun _ _ z => z) (fun _ _ z => z)) (fun _ _ z => z) (fun _ _ z => z) (fun _ _ z => z)
theorem ss_one (h1 : DS X P g st ts) : DSs X P g [st] ts :=
  DSs.of (pss_one h1.ps) fun σ H E H0 ss N S T h => upS.run S T h (fun _ _ z => z) (fun _ _ z => z) (fun _ _ z => z) (fun _ _ z => z)
theorem s_pass : DS X P g (.Pass pos) vNext := DS.of ps_pass fun σ H E H0 ss N S T h => ⟨ss, S, h⟩
theorem s_break : DS X P g (.Break pos) vBreak := DS.of ps_break fun σ H E H0 ss N S T h => ⟨ss, S, h⟩
theorem s_continue : DS X P g (.Continue pos) vCont := DS.of ps_continue fun σ H E H0 ss N S T h => ⟨ss, S, h⟩
theorem s_doc {x j pos pos'} : DS X P g (.Expr (.Constant (.str x) j pos) pos') vNext := DS.of ps_doc fun σ H E H0 ss N S T h => ⟨ss, S, h⟩
def vNever : TSt := fun _ _ => False
theorem s_never : DS X P g st vNever := ⟨fun _ _ _ _ _ _ _ _ _ _ _ h => h.elim⟩
theorem ss_never : DSs X P g rest vNever := ⟨fun _ _ _ _ _ _ _ _ _ _ _ h => h.elim⟩
/-- own objects told of in this statement (and from then on) -/
def vFrz (is : List Nat) (t : TSt) : TSt := fun N ss => t N (frz is ss)
theorem s_frz (is : List Nat) (h : DS X P g st ts) : DS X P g st (vFrz is ts) := ⟨fun pins s σ H E H0 ss N I S T ht => h.run pins s σ H E H0 (frz is ss) N I S.frz T ht⟩
/-- own objects lent to an expression whose value is flat -/
def flat : D → Bool
  | .non | .bl _ | .int _ | .str _ => true
  | _ => false
theorem flat_den {R R' : Addr → Prop} {v : V} {d : D} (f : flat d = true) (n : Den P g R H v d) : Den P g R' H' v d := by
  cases n <;> first | exact .non | exact .bl | exact .int | exact .str | cases f
def vBor (is : List Nat) (t : TD) : TD := fun ss Q Qx => t (frz is ss) (fun d => flat d = true ∧ Q d) Qx
def vBorT (is : List Nat) (t : TB) : TB := fun ss Q Qx => t (frz is ss) Q Qx
theorem Rg_W {x : Addr} (w : g.W x) : Rg g E σ ss x := Rg.W w
theorem Stt.back {σ' : St} (S : Stt P g E H0 ss σ H) (S' : Stt P g E' H0 ss' σ' H') (e : Ext g.W H H') : Stt P g E H0 ss σ H' :=
  S.ext e ⟨S'.sg.tabs, S'.sg.inv, fun a r => by
    obtain ⟨o, q, n⟩ := S.sg.trk a r
    by_cases w : g.W a
    · exact S'.sg.trk a (Rg.W w)
    · exact ⟨o, e.keep a o q n w, n⟩⟩
theorem d_bor (is : List Nat) (h : DE X P g e ta) : DE X P g e (vBor is ta) := DE.of h.pe fun σ H E H0 ss Q Qx S T ht => upE.run S.frz T ht fun v H' d S' e' n q =>
  ⟨d, S.back S' e', e', flat_den q.1 n, q.2⟩
theorem t_bor (is : List Nat) (h : DT X P g e tt) : DT X P g e (vBorT is tt) := DT.of h.pt fun σ H E H0 ss Q Qx S T ht => upT.run S.frz T ht fun b H' S' e' q => ⟨S.back S' e', e', q⟩
/-! ### plain statements -/
def vSet (i : Nat) (ta : TD) : TSt := fun N ss => ta ss (fun d => N.nx (ss.set i (.v d))) N.ex
theorem s_set (i : Nat) {x : Str} {pos' : Pos} (hN : X.N.Nodup) (he : DE X P g e ta) (hi : X.N[i]? = some x := by rfl) (hx : Loc X.env.scope x := by first | exact Or.inl rfl | exact Or.inr rfl) (hs : swapsWith e (some (.Name x pos')) pos.line X.env = pure false := by rfl) (hf : X.fn x = true ∨ X.env.scope.names.lookup x = some .local := by first | exact .inl rfl | exact .inr rfl | assumption) :
    DS X P g (.Assign [.Name x pos'] e pos) (vSet i ta) := DS.of (ps_set hN hi hx he.pe hs hf) fun σ H E H0 ss N S T h => upE.run S T h fun v H' d S' e' n q => ⟨_, S'.set i n, q⟩
def vDrop (ta : TD) : TSt := fun N ss => ta ss (fun _ => N.nx ss) N.ex
theorem s_expr (he : DE X P g e ta) (hs : swapsWith e none pos.line X.env = pure false := by rfl) : DS X P g (.Expr e pos) (vDrop ta) := DS.of (ps_expr he.pe hs) fun σ H E H0 ss N S T h => upE.run S T h fun v H' d S' e' n q => ⟨_, S', q⟩
def vRet (ta : TD) : TSt := fun N ss => ta ss N.rt N.ex
theorem s_ret (he : DE X P g e ta) : DS X P g (.Return (some e) pos) (vRet ta) := DS.of (ps_ret he.pe) fun σ H E H0 ss N S T h => upE.run S T h fun v H' d S' e' n q =>
  ⟨d, σ, ss, S', Den.mv (Mv.sub fun a r => r.elim .inl fun z => .inr (.inl z)) n, q⟩
def vRetN : TSt := fun N _ => N.rt .non
theorem s_retN : DS X P g (.Return none pos) vRetN := DS.of ps_retN fun σ H E H0 ss N S T h => ⟨.non, σ, ss, S, .non, h⟩
def vIfS (c : TB) (t u : TSt) : TSt := fun N ss => c ss (fun b => match b with | true => t N ss | false => u N ss) N.ex
theorem s_if {body orelse : List Stmt} (hc : DT X P g c tt) (ha : DSs X P g body ts) (hb : DSs X P g orelse us) : DS X P g (.If c body orelse pos) (vIfS tt ts us) :=
  DS.of (ps_if hc.pt ha.pss hb.pss) fun σ H E H0 ss N S T h => upT.run S T h fun b H' S' e' q => by
    cases b with
    | true => exact iteT (upS.run S' T q (fun _ _ z => z) (fun _ _ z => z) (fun _ _ z => z) (fun _ _ z => z))
    | false => exact iteF (upS.run S' T q (fun _ _ z => z) (fun _ _ z => z) (fun _ _ z => z) (fun _ _ z => z))
/-! ### lists that are made -/
structure DN (X : Cx) (P : Gl0) (g : G) (e : Expr) (t : TL) : Prop where
  ex : ∃ te : TE, PE X e te ∧ ∀ (σ : St) (H : Hp) (E : Ex) (H0 : Hp) (ss : SS) (Q : List D → Prop) (Qx : Err → SS → Prop) (K : VK), Stt P g E H0 ss σ H → TX X P g E H0 Qx → t ss Q Qx →
    (∀ H1 p vs l, Stt P g E H0 ss σ H1 → Ext g.W H H1 → H1 p = none → DenL P g (Rg g E σ ss) H1 vs l → Q l → K (.ref p) (upd H1 p (.lst vs))) → te σ H K
def vNew (t : TL) : TD := fun ss Q Qx => t ss (fun l => Q (.lst l)) Qx
theorem DN.de (h : DN X P g e tl) : DE X P g e (vNew tl) := by
  obtain ⟨te, h1, h2⟩ := h.ex
  exact DE.of h1 fun σ H E H0 ss Q Qx S T ht => h2 σ H E H0 ss _ Qx _ S T ht fun H1 p vs l S1 e1 hp n q => EPD.back e1 (.lst S1 hp n q)
def vOwn (i : Nat) (t : TL) : TSt := fun N ss => t ss (fun l => N.nx (ss.set i (.own (.lst l)))) N.ex
theorem s_own (i : Nat) {x : Str} {pos' : Pos} (hN : X.N.Nodup) (he : DN X P g e tl) (hi : X.N[i]? = some x := by rfl) (hx : Loc X.env.scope x := by first | exact Or.inl rfl | exact Or.inr rfl) (hs : swapsWith e (some (.Name x pos')) pos.line X.env = pure false := by rfl) (hf : X.fn x = true ∨ X.env.scope.names.lookup x = some .local := by first | exact .inl rfl | exact .inr rfl | assumption) :
    DS X P g (.Assign [.Name x pos'] e pos) (vOwn i tl) := by
  obtain ⟨te, h1, h2⟩ := he.ex
  exact DS.of (ps_set hN hi hx h1 hs hf) fun σ H E H0 ss N S T h => h2 σ H E H0 ss _ _ _ S T h fun H1 p vs l S1 e1 hp n q => ⟨_, S1.setOwn i hp NT.lst fun R' H' m z => .lst z (DenL.mv m n), q⟩
theorem n_lst (h : DA X P g es tl) : DN X P g (.List es pos) (fun ss Q Qx => tl ss (fun l => l.length ≤ 100000 ∧ Q l) Qx) :=
  ⟨_, pe_lst h.pa, fun σ H E H0 ss Q Qx K S T h k => upA.run S T h fun vs H' ds S' e ns q => ⟨by rw [ns.length]; exact line5 q.1, fun p hp => k H' p vs ds S' e hp ns q.2⟩⟩
def isL (Q : List D → Prop) : D → Prop
  | .lst l => Q l
  | _ => False
theorem isL.ok {Q : List D → Prop} {d : D} (h : isL Q d) : ∃ l, d = .lst l ∧ Q l := by
  cases d with
  | lst l => exact ⟨l, rfl, h⟩
  | _ => exact h.elim
theorem n_cat (ha : DE X P g a ta) (hb : DE X P g b tb) : DN X P g (.BinOp a .Add b pos) (fun ss Q Qx => ta ss (isL fun l => tb ss (isL fun m => l.length + m.length ≤ sizeLine ∧ Q (l ++ m)) Qx) Qx) :=
  ⟨_, pe_op op_cat ha.pe hb.pe, fun σ H E H0 ss Q Qx K S T h k => upE.run S T h fun x H1 dx S1 e1 n1 q1 => by
    obtain ⟨l, rfl, q1⟩ := q1.ok
    refine upE.run S1 T q1 fun y H2 dy S2 e2 n2 q2 => ?_
    obtain ⟨m, rfl, q2, q3⟩ := q2.ok
    obtain ⟨p, vs, rfl, _, hp, l1⟩ := (den_W e2 n1).of_lst
    obtain ⟨p', ws, rfl, _, hp', l2⟩ := n2.of_lst
    exact ⟨p, p', vs, ws, rfl, rfl, hp, hp', by rw [l1.length, l2.length]; exact q2, fun z hz => k H2 z _ _ S2 (e1.trans e2) hz (l1.append l2) q3⟩⟩
def isIn (Q : Int → Prop) : D → Prop
  | .int l => Q l
  | _ => False
theorem isIn.ok {Q : Int → Prop} {d : D} (h : isIn Q d) : ∃ l, d = .int l ∧ Q l := by
  cases d with
  | int l => exact ⟨l, rfl, h⟩
  | _ => exact h.elim
theorem n_rep (ha : DE X P g a ta) (hb : DE X P g b tb) : DN X P g (.BinOp a .Mult b pos) (fun ss Q Qx => ta ss (isL fun l => tb ss (isIn fun k => (k < 1000000 ∧ -1000000 < k) ∧ l.length * k.toNat ≤ sizeLine ∧ Q (List.replicate k.toNat l).flatten) Qx) Qx) :=
  ⟨_, pe_op op_rep ha.pe hb.pe, fun σ H E H0 ss Q Qx K S T h k => upE.run S T h fun x H1 dx S1 e1 n1 q1 => by
    obtain ⟨l, rfl, q1⟩ := q1.ok
    refine upE.run S1 T q1 fun y H2 dy S2 e2 n2 q2 => ?_
    obtain ⟨m, rfl, q2, q3, q4⟩ := q2.ok
    obtain ⟨p, vs, rfl, _, hp, l1⟩ := (den_W e2 n1).of_lst
    cases n2
    exact ⟨p, _, vs, rfl, rfl, hp, by omega, by omega, by rw [l1.length]; exact q3, fun z hz => k H2 z _ _ S2 (e1.trans e2) hz (l1.rep _) q4⟩⟩
theorem n_slice {lo hi : Option Expr} {tl th : TO'} {p2 : Pos} (ha : DE X P g a ta) (hl : DO X P g lo tl) (hh : DO X P g hi th) : DN X P g (.Subscript a (.Slice lo hi none p2) pos) (fun ss Q Qx => ta ss (isL fun l => tl ss (fun i => th ss (fun j => Q (cutD l i j)) Qx) Qx) Qx) := by
  obtain ⟨l1, l2, l3⟩ := hl
  obtain ⟨h1, h2, h3⟩ := hh
  refine ⟨_, pe_slice sl_list ha.pe l2 h2, fun σ H E H0 ss Q Qx K S T h k => upE.run S T h fun x H1 dx S1 e1 n1 q1 => ?_⟩
  obtain ⟨l, rfl, q1⟩ := q1.ok
  refine l3 σ H1 E H0 ss _ Qx _ S1 T q1 fun i H2 S2 e2 q2 => h3 σ H2 E H0 ss _ Qx _ S2 T q2 fun j H3 S3 e3 q3 => ?_
  obtain ⟨p, vs, rfl, n, hp, l⟩ := (den_W e3 (den_W e2 n1)).of_lst
  exact ⟨p, vs, rfl, SqL.of hp, fun p' hp' => k H3 p' _ _ S3 ((e1.trans e2).trans e3) hp' (l.cut i j) q3⟩
theorem n_list {x : Str} {p : Pos} (hg : Gl X x) (hm : X.mg x = none) (hv : bootBuiltins x = some (.type "list")) (ha : DE X P g e ta) (hn : x ≠ "__name__" := by decide) (hdb : (x == ("__debug__" : Str)) = false := by decide)
    (he : starEach [e] X.env = (false, eval e X.env) :: starEach [] X.env := by rfl) (hpl : (backTo pos (starEach [] X.env)).any (·.1) = false := by rfl) :
    DN X P g (.Call (.Name x p) [e] [] pos) (fun ss Q Qx => ta ss (fun d => match d with | .lst l => Q l | .tup l => Q l | _ => False) Qx) :=
  ⟨_, pe_callTy call_list_of hg hm hv (pa_cons ha.pe pa_nil he) hn hdb he hpl, fun σ H E H0 ss Q Qx K S T h k => upE.run S T h fun x H1 dx S1 e1 n1 q1 => by
    cases dx with
    | lst l =>
      obtain ⟨p, vs, rfl, _, hp, l1⟩ := n1.of_lst
      exact ⟨p, vs, rfl, .inl (SqL.of hp), fun z hz => k H1 z _ _ S1 e1 hz l1 q1⟩
    | tup l =>
      obtain ⟨p, vs, rfl, _, hp, l1⟩ := n1.of_tup
      exact ⟨p, vs, rfl, .inr (SqT.of hp), fun z hz => k H1 z _ _ S1 e1 hz l1 q1⟩
    | _ => exact q1.elim⟩
/-! ### lists of one's own that change -/
def isOwnL (o : Option Sl) (Q : List D → Prop) : Prop := match o with
  | some (.own (.lst l)) => Q l
  | _ => False
theorem isOwnL.ok {o : Option Sl} {Q : List D → Prop} (h : isOwnL o Q) : ∃ l, o = some (.own (.lst l)) ∧ Q l := by
  unfold isOwnL at h
  split at h
  · exact ⟨_, rfl, h⟩
  · exact h.elim
theorem Stt.ownL (S : Stt P g E H0 ss σ H) {i : Nat} {l : List D} (h : ss[i]? = some (.own (.lst l))) : ∃ p vs, σ[i]? = some (some (.ref p)) ∧ H p = some (.lst vs) ∧ DenL P g (Rg g E σ ss) H vs l ∧ Rg g E σ ss p := by
  obtain ⟨p, h1, _, _, _, c⟩ := S.own i _ h
  cases c with
  | lst h2 h3 => exact ⟨p, _, h1, h2, h3, .inr (.inr ⟨i, _, h, h1⟩)⟩
/-- x.append(e) -/
def vApp (i : Nat) (ta : TD) : TSt := fun N ss => isOwnL ss[i]? fun l => ta ss (fun d => l.length < 1000000 ∧ N.nx (ss.set i (.own (.lst (l ++ [d]))))) N.ex
theorem kpR {R : Addr → Prop} {vs : List V} {l : List D} (h : DenL P g R H vs l) (k : ∀ a u, ¬ R a → H a = some u → NT u → H' a = some u) : DenL P g R H' vs l := DenL.mv ⟨fun a u n q t => ⟨k a u n q t, n⟩, fun _ _ b => b⟩ h
theorem s_app (i : Nat) (he : DE X P g e ta) (hp : ∀ te, PE X e te → PS X st (tDrop (tBM X.K "list" rAppend (tVar i) (tCons te tNil)))) : DS X P g st (vApp i ta) :=
  DS.of (hp _ he.pe) fun σ H E H0 ss N S T h => by
    obtain ⟨l, hl, h⟩ := h.ok
    obtain ⟨p, vs, h1, h2, h3, h4⟩ := S.ownL hl
    refine ⟨.ref p, h1, .inl ⟨rfl, _, SqL.of h2⟩, upE.run S T h fun v H1 d S1 e1 n1 q1 => ?_⟩
    obtain ⟨p', vs', h1', h2', h3', _⟩ := S1.ownL hl
    rw [h1] at h1'
    cases h1'
    exact ⟨p, vs', v, rfl, rfl, h2', by rw [h3'.length]; exact Nat.lt_of_lt_of_le q1.1 (by decide), _, S1.chg hl h1 NT.lst (fun H' k z => .lst z ((kpR h3' k).append (.cons (Den.mv ⟨fun a u n q t => ⟨k a u n q t, n⟩, fun _ _ b => b⟩ n1) .nil))), q1.2⟩
/-- x[k] = e -/
def vSto (i : Nat) (tb ta : TD) : TSt := fun N ss => ta ss (fun d => isOwnL ss[i]? fun l => tb ss (isIn fun k => match ixN l.length k with | some j => N.nx (ss.set i (.own (.lst (l.set j d)))) | none => False) N.ex) N.ex
theorem s_sto (i : Nat) (hb : DE X P g b tb) (he : DE X P g e ta) (hp : ∀ te tk, PE X e te → PE X b tk → PS X st (tAsg te (gSub (tVar i) tk rSetL))) : DS X P g st (vSto i tb ta) :=
  DS.of (hp _ _ he.pe hb.pe) fun σ H E H0 ss N S T h => upE.run S T h fun v H1 d S1 e1 n1 q1 => by
    obtain ⟨l, hl, q1⟩ := q1.ok
    obtain ⟨p, vs, h1, h2, h3, h4⟩ := S1.ownL hl
    refine ⟨.ref p, h1, upE.run S1 T q1 fun w H2 dk S2 e2 n2 q2 => ?_⟩
    obtain ⟨k, ek, q3⟩ := q2.ok
    subst ek
    cases n2
    obtain ⟨p', vs', h1', h2', h3', _⟩ := S2.ownL hl
    rw [h1] at h1'
    cases h1'
    cases hj : ixN l.length k with
    | none => rw [hj] at q3; exact q3.elim
    | some j =>
      rw [hj] at q3
      exact ⟨p, vs', k, j, rfl, rfl, h2', by rw [h3'.length]; exact hj, _, S2.chg hl h1 NT.lst (fun H' k z => .lst z (DenL.set (Den.mv ⟨fun a u n q t => ⟨k a u n q t, n⟩, fun _ _ b => b⟩ (den_W e2 n1)) j (kpR h3' k))), q3⟩
/-! ### targets -/
def setN (js : List Nat) (ds : List D) (ss : SS) : SS := match js, ds with
  | j :: js, d :: ds => setN js ds (ss.set j (.v d))
  | _, _ => ss
abbrev TG' := D → SS → (SS → Prop) → Prop
/-- no object of one's own in these slots -/
def noOwn (ss : SS) : List Nat → Prop
  | [] => True
  | j :: js => (match ss[j]? with | some (.own _) => False | _ => True) ∧ noOwn ss js
theorem noOwn.at {ss : SS} : ∀ {js : List Nat}, noOwn ss js → ∀ j ∈ js, ∀ d, ss[j]? ≠ some (.own d)
  | j :: js, h, k, hk, d, e => by
    rcases List.mem_cons.mp hk with z | z
    · subst z
      have h1 := h.1
      rw [e] at h1
      exact h1
    · exact noOwn.at h.2 k z d e
theorem rg_setV {j : Nat} {v : Option V} {s : Sl} (h : ∀ d, ss[j]? ≠ some (.own d)) (x : Addr) (r : Rg g E σ ss x) : Rg g E (σ.set j v) (ss.set j s) x := by
  rcases r with r | r | ⟨i, d, h1, h2⟩
  · exact .inl r
  · exact .inr (.inl r)
  · have q : i ≠ j := fun e => by
      rw [e] at h1
      exact h d h1
    exact .inr (.inr ⟨i, d, by rw [get_set_ne q]; exact h1, by rw [get_set_ne q]; exact h2⟩)
structure DG (X : Cx) (P : Gl0) (g : G) (tg : Expr) (js : List Nat) (t : TG') : Prop where
  ex : ∃ gt : TG, PG X tg gt ∧ ∀ (v : V) (d : D) (σ : St) (H : Hp) (E : Ex) (H0 : Hp) (ss : SS) (Q : SS → Prop) (K : St → Hp → Prop), Stt P g E H0 ss σ H → Den P g (Rg g E σ ss) H v d → t d ss Q →
    (∀ σ' ss', Stt P g E H0 ss' σ' H → (∀ x, Rg g E σ' ss' x → Rg g E σ ss x) → (noOwn ss js → ∀ x, Rg g E σ ss x → Rg g E σ' ss' x) → wipe σ' js = wipe σ js → Q ss' → K σ' H) → gt v σ H K
def gV (j : Nat) : TG' := fun d ss Q => Q (ss.set j (.v d))
theorem wipe_set (σ : St) (v : Option V) : ∀ (js : List Nat) (j : Nat), j ∈ js → wipe (σ.set j v) js = wipe σ js
  | [], _, h => by cases h
  | k :: js, j, h => by
    unfold wipe
    by_cases e : j ∈ js
    · rw [wipe_set σ v js j e]
    · have ek : j = k := by
        rcases List.mem_cons.mp h with h | h
        · exact h
        · exact (e h).elim
      subst ek
      have go : ∀ (js : List Nat), j ∉ js → wipe (σ.set j v) js = (wipe σ js).set j v := by
        intro js
        induction js with
        | nil => intro _; rfl
        | cons m js ih =>
          intro hm
          rw [List.mem_cons, not_or] at hm
          unfold wipe
          rw [ih hm.2, List.set_comm _ _ hm.1]
      rw [go js e, List.set_set]
theorem g_name (j : Nat) {x : Str} {pos' : Pos} (hN : X.N.Nodup) (hi : X.N[j]? = some x := by rfl) (hx : Loc X.env.scope x := by first | exact Or.inl rfl | exact Or.inr rfl) (hf : X.fn x = true ∨ X.env.scope.names.lookup x = some .local := by first | exact .inl rfl | exact .inr rfl | assumption) (js : List Nat := [j]) (hj : j ∈ js := by decide) : DG X P g (.Name x pos') js (gV j) :=
  ⟨_, pg_name hN hi hx hf, fun v d σ H E H0 ss Q K S n h k => k _ _ (S.set j n) (fun x r => Rg_setV (fun d z => by cases z) r) (fun no x r => rg_setV (no.at j hj) x r) (wipe_set σ _ js j hj) h⟩
end
end DL

set_option maxRecDepth 100000
set_option maxHeartbeats 4000000
namespace DL
open PySem L2 LamX NdefX

section
variable {X : Cx} {P : Gl0} {g : G} {a b c e tg iter elt : Expr} {es : List Expr} {ta tb tc te : TD} {tt uu : TB} {tl : TL} {ts us : TSt} {pos : Pos} {st : Stmt} {rest body : List Stmt} {js : List Nat} {tgt : TG'}
variable {E E' : Ex} {H0 H H1 H' : Hp} {ss ss' : SS} {σ σ' : St}

/-- a tuple of names -/
theorem stt_setN : ∀ (js : List Nat) {vs : List V} {ds : List D} {σ : St} {ss : SS}, Stt P g E H0 ss σ H → DenL P g (Rg g E σ ss) H vs ds → js.length = ds.length →
    ∃ σ', Stt P g E H0 (setN js ds ss) σ' H ∧ (∀ x, Rg g E σ' (setN js ds ss) x → Rg g E σ ss x) ∧ ((∀ j ∈ js, ∀ d, ss[j]? ≠ some (.own d)) → ∀ x, Rg g E σ ss x → Rg g E σ' (setN js ds ss) x) ∧ σ' = (js.zip vs).foldl (fun s p => s.set p.1 (some p.2)) σ := by
  intro js
  induction js with
  | nil =>
    intro vs ds σ ss S n h
    cases ds with
    | nil => exact ⟨σ, S, fun _ r => r, fun _ _ r => r, rfl⟩
    | cons d ds => simp at h
  | cons j js ih =>
    intro vs ds σ ss S n h
    cases ds with
    | nil => simp at h
    | cons d ds =>
      cases n with
      | cons n1 n2 =>
        rename_i v vs
        have S1 := S.set j n1
        have hs : ∀ x, Rg g E (σ.set j (some v)) (ss.set j (.v d)) x → Rg g E σ ss x := fun x r => Rg_setV (fun d z => by cases z) r
        obtain ⟨σ', a, b, bb, c⟩ := ih S1 (DenL.mv (Mv.sub hs) n2) (by simpa using h)
        refine ⟨σ', a, fun x r => hs x (b x r), fun no x r => bb (fun k hk d' z => ?_) x (rg_setV (no j List.mem_cons_self) x r), c⟩
        rcases set_get z with ⟨_, z⟩ | ⟨_, z⟩
        · cases z
        · exact no k (List.mem_cons_of_mem _ hk) d' z
theorem wipe_fold (js ks : List Nat) (hk : ∀ k ∈ ks, k ∈ js) : ∀ (vs : List V) (σ : St), wipe ((ks.zip vs).foldl (fun s p => s.set p.1 (some p.2)) σ) js = wipe σ js := by
  induction ks with
  | nil => intro vs σ; rfl
  | cons k ks ih =>
    intro vs σ
    cases vs with
    | nil => rfl
    | cons v vs =>
      rw [List.zip_cons_cons, List.foldl_cons, ih (fun k h => hk k (List.mem_cons_of_mem _ h)), wipe_set _ _ _ _ (hk k List.mem_cons_self)]
def gT (ks : List Nat) : TG' := fun d ss Q => match d with
  | .tup l => l.length = ks.length ∧ Q (setN ks l ss)
  | _ => False
/-- a tuple of two names, of three -/
theorem g_two (i j : Nat) {x y : Str} {p1 p2 p3 : Pos} {kk : Nat} (hc : X.calm = true) (hN : X.N.Nodup) (hi : X.N[i]? = some x := by rfl) (hj : X.N[j]? = some y := by rfl) (hx : Loc X.env.scope x := by first | exact Or.inl rfl | exact Or.inr rfl) (hy : Loc X.env.scope y := by first | exact Or.inl rfl | exact Or.inr rfl)
    (hfx : X.fn x = true ∨ X.env.scope.names.lookup x = some .local := by first | exact .inl rfl | exact .inr rfl | assumption) (hfy : X.fn y = true ∨ X.env.scope.names.lookup y = some .local := by first | exact .inl rfl | exact .inr rfl | assumption) (js : List Nat := [i, j]) (hj : ∀ k ∈ [i, j], k ∈ js := by decide) :
    DG X P g (.Tuple [.Name x p1, .Name y p2] kk p3) js (gT [i, j]) :=
  ⟨_, pg_tup hc (pgs_cons (pg_name hN hi hx hfx) (pgs_cons (pg_name hN ‹_› hy hfy) pgs_nil)), fun v d σ H E H0 ss Q K S n h k => by
    unfold gT at h
    split at h
    · rename_i l
      obtain ⟨a, vs, rfl, _, ha, hl⟩ := n.of_tup
      obtain ⟨e1, q⟩ := h
      have el := hl.length
      obtain ⟨v1, v2, rfl⟩ : ∃ v1 v2, vs = [v1, v2] := by
        have e2 : vs.length = 2 := el.trans e1
        match vs, e2 with
        | [v1, v2], _ => exact ⟨v1, v2, rfl⟩
      obtain ⟨σ', a1, a2, a4, a3⟩ := stt_setN [i, j] S hl e1.symm
      refine ⟨a, [v1, v2], rfl, SqT.of ha, rfl, v1, [v2], rfl, v2, [], rfl, rfl, ?_⟩
      have := k σ' _ a1 a2 (fun no => a4 fun k hk => no.at k (hj k hk)) (by rw [a3]; exact wipe_fold js [i, j] hj _ _) q
      rw [a3] at this
      exact this
    · exact h.elim⟩
/-! ### what is walked -/
structure Src (P : Gl0) (g : G) (J : It) (l : List D) (z : Hp → (Addr → Prop) → Prop) : Prop where
  hz : ∀ (H H' : Hp) (R R' : Addr → Prop), (∀ a o, ¬ R a → H a = some o → NT o → H' a = some o ∧ ¬ R' a) → z H R → z H' R'
  go : ∀ (i : Nat) (H : Hp) (R : Addr → Prop), g.inv H → z H R → i < l.length → J.go i H
  yld : ∀ (i : Nat) (H : Hp) (R : Addr → Prop) (x : V) (H' : Hp) (d : D), g.inv H → z H R → (∀ a, R a → H a ≠ none) → l[i]? = some d → J.yld i H x H' → (∀ b o, H b = some o → H' b = some o) ∧ Den P g R H' x d
  stop : ∀ (i : Nat) (H : Hp) (R : Addr → Prop), g.inv H → z H R → i = l.length → J.stop i H
structure DI (X : Cx) (P : Gl0) (g : G) (tg iter : Expr) (ti : TL) : Prop where
  ex : ∃ wi : TI, PI X tg iter wi ∧ ∀ (σ : St) (H : Hp) (E : Ex) (H0 : Hp) (ss : SS) (Q : List D → Prop) (Qx : Err → SS → Prop) (R : It → Hp → Prop), Stt P g E H0 ss σ H → TX X P g E H0 Qx → ti ss Q Qx →
    (∀ J H1 l z, Stt P g E H0 ss σ H1 → Ext g.W H H1 → Src P g J l z → z H1 (Rg g E σ ss) → Q l → R J H1) → wi σ H R
theorem mvR {R R' : Addr → Prop} (m : ∀ a o, ¬ R a → H a = some o → NT o → H' a = some o ∧ ¬ R' a) : Mv g g R R' H H' := ⟨m, fun _ _ b => b⟩
theorem src_lst {K : PySem.W.Frag} {a : Addr} {vs : List V} {l : List D} : Src P g (Itl K a) l (fun H R => H a = some (.lst vs) ∧ ¬ R a ∧ DenL P g R H vs l) where
  hz := fun H H' R R' m ⟨h1, h2, h3⟩ => ⟨(m a _ h2 h1 NT.lst).1, (m a _ h2 h1 NT.lst).2, DenL.mv (mvR m) h3⟩
  go := fun i H R _ ⟨h1, h2, h3⟩ hi => ⟨vs, vs[i]'(by rw [h3.length]; exact hi), SqL.of h1, List.getElem?_eq_getElem _⟩
  yld := fun i H R x H' d _ ⟨h1, h2, h3⟩ _ hd hy => by
    obtain ⟨rfl, hy⟩ := hy
    obtain ⟨v, q1, q2⟩ := h3.get hd
    have := hy vs (SqL.of h1)
    rw [q1] at this
    cases this
    exact ⟨fun _ _ z => z, q2⟩
  stop := fun i H R _ ⟨h1, h2, h3⟩ e => ⟨vs, SqL.of h1, by rw [h3.length, e]; exact Nat.le_refl _⟩
theorem src_tup {K : PySem.W.Frag} {a : Addr} {vs : List V} {l : List D} : Src P g (Itt K a) l (fun H R => H a = some (.tup vs) ∧ ¬ R a ∧ DenL P g R H vs l) where
  hz := fun H H' R R' m ⟨h1, h2, h3⟩ => ⟨(m a _ h2 h1 NT.tup).1, (m a _ h2 h1 NT.tup).2, DenL.mv (mvR m) h3⟩
  go := fun i H R _ ⟨h1, h2, h3⟩ hi => ⟨vs, vs[i]'(by rw [h3.length]; exact hi), SqT.of h1, List.getElem?_eq_getElem _⟩
  yld := fun i H R x H' d _ ⟨h1, h2, h3⟩ _ hd hy => by
    obtain ⟨rfl, hy⟩ := hy
    obtain ⟨v, q1, q2⟩ := h3.get hd
    have := hy vs (SqT.of h1)
    rw [q1] at this
    cases this
    exact ⟨fun _ _ z => z, q2⟩
  stop := fun i H R _ ⟨h1, h2, h3⟩ e => ⟨vs, SqT.of h1, by rw [h3.length, e]; exact Nat.le_refl _⟩
def intsD (lo : Int) (n : Nat) : List D := (List.range n).map fun (i : Nat) => D.int (lo + (i : Int))
theorem ints_len (lo : Int) (n : Nat) : (intsD lo n).length = n := by unfold intsD; rw [List.length_map, List.length_range]
theorem ints_get {lo : Int} {n i : Nat} {d : D} (h : (intsD lo n)[i]? = some d) : i < n ∧ d = .int (lo + (i : Int)) := by
  unfold intsD at h
  rw [List.getElem?_map] at h
  obtain ⟨k, h1, h2⟩ := Option.map_eq_some_iff.mp h
  obtain ⟨h3, h4⟩ := List.getElem?_eq_some_iff.mp h1
  rw [List.getElem_range] at h4
  rw [List.length_range] at h3
  subst h4
  exact ⟨h3, h2.symm⟩
theorem src_rng {lo : Int} {n : Nat} : Src P g (Itr lo n) (intsD lo n) (fun _ _ => True) where
  hz := fun _ _ _ _ _ _ => trivial
  go := fun i H R _ _ hi => by rw [ints_len] at hi; exact hi
  yld := fun i H R x H' d _ _ _ hd hy => by
    obtain ⟨rfl, hy⟩ := hy
    obtain ⟨_, rfl⟩ := ints_get hd
    subst hy
    exact ⟨fun _ _ z => z, .int⟩
  stop := fun i H R _ _ e => by rw [ints_len] at e; exact Nat.le_of_eq e.symm
/-- a list or a tuple -/
def iSq (K : PySem.W.Frag) (tl : TE) : TI := fun σ H R => tl σ H fun x H1 => ∃ a, x = .ref a ∧ (((∃ xs, SqL K H1 a xs) ∧ R (Itl K a) H1) ∨ ((∃ xs, SqT K H1 a xs) ∧ R (Itt K a) H1))
theorem pi_sq {l : Expr} {tl : TE} (hl : PE X l tl) : PI X tg l (iSq X.K tl) := by
  refine ⟨fun pins s σ H R I h => ?_⟩
  refine thn (hl.run pins s σ H _ I h) fun v s1 ⟨x, H1, I1, r1, q1⟩ => ?_
  obtain ⟨a, e, q⟩ := q1
  subst e
  rcases q with ⟨⟨xs, hq⟩, q⟩ | ⟨⟨xs, hq⟩, q⟩
  · cases r1
    obtain ⟨its, rv, p, hz⟩ := I1.list hq
    refine wpAny_pyIter_list p.isList ?_
    refine ⟨s1.heap.objs.size, [s1.heap.objs.size], _, _, H1, rfl, I1.kept (t' := s1.toks) fun b o e => Heap.get?_push_of_some _ e, turn_list a _, ⟨_, Heap.get?_push_size _ rfl, rfl, rfl⟩, fun b hb => ?_, q⟩
    have e : b = s1.heap.objs.size := by simpa using hb
    subst e
    exact I1.fpOk (Nat.le_refl _) (I1.hok.fresh (Nat.le_refl _))
  · cases r1
    obtain ⟨its, rv, p, hz⟩ := I1.tuple hq
    refine wpAny_pyIter_tuple (show s1.heap.IsTuple a its.toArray from p) ?_
    refine ⟨s1.heap.objs.size, [s1.heap.objs.size], _, _, H1, rfl, I1.kept (t' := s1.toks) fun b o e => Heap.get?_push_of_some _ e, turn_tuple a _, ⟨_, Heap.get?_push_size _ rfl, rfl, rfl⟩, fun b hb => ?_, q⟩
    have e : b = s1.heap.objs.size := by simpa using hb
    subst e
    exact I1.fpOk (Nat.le_refl _) (I1.hok.fresh (Nat.le_refl _))
def seqOf (Q : List D → Prop) : D → Prop
  | .lst l => Q l
  | .tup l => Q l
  | _ => False
def vSeqI (ta : TD) : TL := fun ss Q Qx => ta ss (seqOf Q) Qx
theorem i_seq (h : DE X P g e ta) : DI X P g tg e (vSeqI ta) :=
  ⟨_, pi_sq h.pe, fun σ H E H0 ss Q Qx R S T hh k => upE.run S T hh fun v H1 d S1 e1 n q => by
    cases d with
    | lst l =>
      obtain ⟨a, vs, rfl, na, ha, hl⟩ := n.of_lst
      exact ⟨a, rfl, .inl ⟨⟨_, SqL.of ha⟩, k _ H1 l _ S1 e1 src_lst ⟨ha, na, hl⟩ q⟩⟩
    | tup l =>
      obtain ⟨a, vs, rfl, na, ha, hl⟩ := n.of_tup
      exact ⟨a, rfl, .inr ⟨⟨_, SqT.of ha⟩, k _ H1 l _ S1 e1 src_tup ⟨ha, na, hl⟩ q⟩⟩
    | _ => exact q.elim⟩
def vRng1 (ta : TD) : TL := fun ss Q Qx => ta ss (isIn fun n => (n < 1000000000000 ∧ -1000000000000 < n) ∧ Q (intsD 0 n.toNat)) Qx
theorem i_rng1 {p1 : Pos} (hg : Gl X "range") (hm : X.mg "range" = none) (ha : DE X P g a ta) (hs : starEach [a] X.env = [(false, eval a X.env)] := by rfl) : DI X P g tg (.Call (.Name "range" p1) [a] [] pos) (vRng1 ta) :=
  ⟨_, pi_range1 hg hm (pa_cons ha.pe pa_nil hs) hs, fun σ H E H0 ss Q Qx R S T hh k => upE.run S T hh fun v H1 d S1 e1 n q => by
    obtain ⟨i, rfl, q1, q2⟩ := q.ok
    cases n
    exact ⟨i, rfl, by omega, by omega, k _ H1 _ _ S1 e1 src_rng trivial q2⟩⟩
def vRng2 (ta tb : TD) : TL := fun ss Q Qx => ta ss (isIn fun m => tb ss (isIn fun n => (m < 1000000000000 ∧ -1000000000000 < m ∧ n < 1000000000000 ∧ -1000000000000 < n) ∧ Q (intsD m (n - m).toNat)) Qx) Qx
theorem i_rng2 {p1 : Pos} (hg : Gl X "range") (hm : X.mg "range" = none) (ha : DE X P g a ta) (hb : DE X P g b tb) (hs : starEach [a, b] X.env = [(false, eval a X.env), (false, eval b X.env)] := by rfl) (hs2 : starEach [b] X.env = [(false, eval b X.env)] := by rfl) : DI X P g tg (.Call (.Name "range" p1) [a, b] [] pos) (vRng2 ta tb) :=
  ⟨_, pi_range2 hg hm (pa_cons ha.pe (pa_cons hb.pe pa_nil hs2) (by rw [hs, hs2])) hs hs2, fun σ H E H0 ss Q Qx R S T hh k => upE.run S T hh fun v H1 d S1 e1 n q => by
    obtain ⟨i, rfl, q1⟩ := q.ok
    cases n
    refine upE.run S1 T q1 fun w H2 d2 S2 e2 n2 q2 => ?_
    obtain ⟨j, rfl, q3, q4⟩ := q2.ok
    cases n2
    exact ⟨i, j, rfl, by omega, k _ H2 _ _ S2 (e1.trans e2) src_rng trivial q4⟩⟩
/-! ### for -/
def vFor (ti : TL) (tg : TG') (tb : TSt) : TSt := fun N ss => ti ss (fun l => ∃ I : Nat → SS → Prop, I 0 ss ∧ (∀ i d ss', l[i]? = some d → I i ss' → tg d ss' (fun ss2 => tb { N with nx := I (i + 1), ct := I (i + 1), bk := N.nx } ss2)) ∧ ∀ ss', I l.length ss' → N.nx ss') N.ex
/-- framed besides -/
def Ex.add (E : Ex) (z : Hp → (Addr → Prop) → Prop) (hz : ∀ (H H' : Hp) (R R' : Addr → Prop), (∀ a o, ¬ R a → H a = some o → NT o → H' a = some o ∧ ¬ R' a) → z H R → z H' R') : Ex :=
  ⟨E.x, fun H R => E.z H R ∧ z H R, fun H H' R R' m ⟨h1, h2⟩ => ⟨E.hz H H' R R' m h1, hz H H' R R' m h2⟩⟩
theorem Stt.add {z : Hp → (Addr → Prop) → Prop} {hz} (S : Stt P g E H0 ss σ H) (h : z H (Rg g E σ ss)) : Stt P g (E.add z hz) H0 ss σ H := ⟨S.sg, ⟨S.pin, h⟩, S.grow, S.len, S.val, S.own, S.uniq⟩
theorem Stt.drop {z : Hp → (Addr → Prop) → Prop} {hz} (S : Stt P g (E.add z hz) H0 ss σ H) : Stt P g E H0 ss σ H := ⟨S.sg, S.pin.1, S.grow, S.len, S.val, S.own, S.uniq⟩
theorem Stt.pinned {z : Hp → (Addr → Prop) → Prop} {hz} (S : Stt P g (E.add z hz) H0 ss σ H) : z H (Rg g E σ ss) := S.pin.2
theorem TX.add {z : Hp → (Addr → Prop) → Prop} {hz} {Qx : Err → SS → Prop} (T : TX X P g E H0 Qx) : TX X P g (E.add z hz) H0 Qx := by
  rcases T with T | T
  · exact .inl T
  · exact .inr (T.imp fun c d σ H ⟨err, ss, S, h1, h2⟩ => ⟨err, ss, S.drop, h1, h2⟩)
theorem SPD.rt_add {z : Hp → (Addr → Prop) → Prop} {hz} {N N' : DEnds} (h : ∀ d, N.rt d → N'.rt d) {v : V} (r : (SPD P g (E.add z hz) H0 N).rt v H) : (SPD P g E H0 N').rt v H := by
  obtain ⟨d, σ, ss, S, n, q⟩ := r
  exact ⟨d, σ, ss, S.drop, n, h d q⟩
theorem s_for (hp : PassesOwn (model X.prog X.w) X.A X.env X.xe) (hc : X.calm = true) (hi : DI X P g tg iter tl) (hg : DG X P g tg js tgt) (hb : DSs X P g body ts) (hs : ∀ x, foldedSetIterable iter X.env x = pure x := by intro _; rfl) :
    DS X P g (.For tg iter body [] pos) (vFor tl tgt ts) := by
  obtain ⟨wi, i1, i2⟩ := hi.ex
  obtain ⟨gt, g1, g2⟩ := hg.ex
  refine DS.of (ps_for hp hc i1 g1 hb.pss hs) fun σ H E H0 ss N S T h => i2 σ H E H0 ss _ _ _ S T h fun J H1 l z S1 e1 src hz q => ?_
  obtain ⟨I, I0, It, Id⟩ := q
  refine ⟨fun i m σ H => m = l.length - i ∧ i ≤ l.length ∧ ∃ ss', Stt P g (E.add z src.hz) H0 ss' σ H ∧ I i ss', ⟨l.length, by simp, Nat.zero_le _, ss, S1.add hz, I0⟩, ?_⟩
  rintro i m σ2 H2 ⟨rfl, hi, ss2, S2, I2⟩
  have trk : ∀ a, Rg g E σ2 ss2 a → H2 a ≠ none := fun a r => by
    obtain ⟨o, q, _⟩ := S2.sg.trk a r
    rw [q]; exact fun z => by cases z
  by_cases hlt : i < l.length
  · refine .inr ⟨src.go i H2 _ S2.sg.inv S2.pinned hlt, fun σ' H' => ∃ ss', Stt P g (E.add z src.hz) H0 ss' σ' H' ∧ I (i + 1) ss', fun σ' H' ⟨ss', S', I'⟩ => ⟨l.length - (i + 1), by omega, rfl, hlt, ss', S', I'⟩, fun x H3 y => ?_⟩
    have hd : l[i]? = some l[i] := List.getElem?_eq_getElem hlt
    obtain ⟨k1, k2⟩ := src.yld i H2 _ x H3 _ S2.sg.inv S2.pinned trk hd y
    have S3 : Stt P g (E.add z src.hz) H0 ss2 σ2 H3 := S2.same k1
    refine g2 x l[i] σ2 H3 (E.add z src.hz) H0 ss2 _ _ S3 k2 (It i _ ss2 hd I2) fun σ4 ss4 S4 _ _ _ q4 => ?_
    exact upS.run (N := { N with nx := I (i + 1), ct := I (i + 1), bk := N.nx }) S4 T.add q4 (fun _ _ z => z) (fun σ' H' ⟨ss', S', h'⟩ => ⟨ss', S'.drop, h'⟩) (fun _ _ z => z) (fun v H' r => SPD.rt_add (fun _ z => z) r)
  · have e : i = l.length := by omega
    subst e
    exact .inl ⟨src.stop _ H2 _ S2.sg.inv S2.pinned rfl, ss2, S2.drop, Id ss2 I2⟩
/-! ### while -/
def vWhile (tc : TB) (tb : TSt) : TSt := fun N ss => ∃ I : Nat → SS → Prop, (∃ m, I m ss) ∧ ∀ m ss', I m ss' → tc ss' (fun b => match b with
  | true => tb { N with nx := fun s => ∃ m', m' < m ∧ I m' s, ct := fun s => ∃ m', m' < m ∧ I m' s, bk := N.nx } ss'
  | false => N.nx ss') N.ex
theorem s_while (hp : PassesOwn (model X.prog X.w) X.A X.env X.xe) (hc : DT X P g c tt) (hb : DSs X P g body ts) : DS X P g (.While c body [] pos) (vWhile tt ts) :=
  DS.of (ps_while hp hc.pt hb.pss) fun σ H E H0 ss N S T h => by
    obtain ⟨I, ⟨m0, h0⟩, turn⟩ := h
    refine ⟨fun m σ H => ∃ ss', Stt P g E H0 ss' σ H ∧ I m ss', ⟨m0, ss, S, h0⟩, ?_⟩
    rintro m σ2 H2 ⟨ss2, S2, I2⟩
    refine upT.run S2 T (turn m ss2 I2) fun b H3 S3 e3 q => ?_
    cases b with
    | true => exact iteT ⟨fun σ' H' => ∃ ss', Stt P g E H0 ss' σ' H' ∧ ∃ m', m' < m ∧ I m' ss', fun σ' H' ⟨ss', S', m', l, I'⟩ => ⟨m', l, ss', S', I'⟩, upS.run (N := { N with nx := fun s => ∃ m', m' < m ∧ I m' s, ct := fun s => ∃ m', m' < m ∧ I m' s, bk := N.nx }) S3 T q (fun _ _ z => z) (fun _ _ z => z) (fun _ _ z => z) (fun _ _ z => z)⟩
    | false => exact iteF ⟨ss2, S3, q⟩

/-! ### comprehensions -/
def wipeS (ss : SS) : List Nat → SS
  | [] => ss
  | v :: vs => (wipeS ss vs).set v .u
theorem Stt.wipe (S : Stt P g E H0 ss σ H) : ∀ js : List Nat, Stt P g E H0 (wipeS ss js) (L2.wipe σ js) H
  | [] => S
  | j :: js => (Stt.wipe S js).wipe1 j
theorem wipeS_get {ss : SS} {j : Nat} : ∀ {js : List Nat} {d : D}, (wipeS ss js)[j]? = some (.own d) → ss[j]? = some (.own d)
  | [], d, h => h
  | k :: js, d, h => by
    unfold wipeS at h
    rcases set_get h with ⟨_, z⟩ | ⟨_, h⟩
    · cases z
    · exact wipeS_get h
theorem rg_wipe (x : Addr) : ∀ {js : List Nat}, noOwn ss js → (Rg g E (L2.wipe σ js) (wipeS ss js) x ↔ Rg g E σ ss x)
  | [], _ => Iff.rfl
  | j :: js, h => by
    have h1 := rg_wipe x (js := js) h.2
    refine Iff.trans ⟨Rg_setV (fun d z => by cases z), rg_setV (fun d e => ?_) x⟩ h1
    exact h.at j List.mem_cons_self d (wipeS_get e)
theorem wipeS_noOwn (js : List Nat) : ∀ ks : List Nat, (∀ k ∈ ks, k ∈ js) → noOwn (wipeS ss js) ks
  | [], _ => trivial
  | k :: ks, h => by
    refine ⟨?_, wipeS_noOwn js ks fun x hx => h x (List.mem_cons_of_mem _ hx)⟩
    split
    · rename_i d e
      have go : ∀ js : List Nat, k ∈ js → (wipeS ss js)[k]? ≠ some (.own d) := by
        intro js
        induction js with
        | nil => intro h; cases h
        | cons j js ih =>
          intro h e
          unfold wipeS at e
          rcases set_get e with ⟨_, z⟩ | ⟨q, e⟩
          · cases z
          · rcases List.mem_cons.mp h with z | z
            · exact q z
            · exact ih z e
      exact go js (h k List.mem_cons_self) e
    · trivial
/-- left out besides: a list that is being made -/
def Ex.out (E : Ex) (D : Addr) : Ex := ⟨fun a => E.x a ∨ a = D, E.z, E.hz⟩
theorem rg_out {D : Addr} (x : Addr) : Rg g (E.out D) σ ss x ↔ (Rg g E σ ss x ∨ x = D) := by
  constructor
  · rintro (h | (h | h) | h)
    · exact .inl (.inl h)
    · exact .inl (.inr (.inl h))
    · exact .inr h
    · exact .inl (.inr (.inr h))
  · rintro ((h | h | h) | h)
    · exact .inl h
    · exact .inr (.inl (.inl h))
    · exact .inr (.inr h)
    · exact .inr (.inl (.inr h))
/-- a new list that is left out -/
theorem Stt.outN (S : Stt P g E H0 ss σ H) {D : Addr} {o : HO} (hD : H D = none) (no : NT o) : Stt P g (E.out D) H0 ss σ (upd H D o) := by
  have S' := S.new (p := D) (o := o) hD
  have mv : Mv g g (Rg g E σ ss) (Rg g (E.out D) σ ss) H (upd H D o) := ⟨fun a u n q t => ⟨by rw [upd_ne (ne_of_none q hD)]; exact q, fun r => ((rg_out a).mp r).elim n (ne_of_none q hD)⟩, fun _ _ b => b⟩
  refine ⟨⟨S'.sg.tabs, S'.sg.inv, fun a r => ((rg_out a).mp r).elim (fun r => S'.sg.trk a r) fun z => ⟨o, by rw [z, upd_same], no⟩⟩, E.hz _ _ _ _ mv.at_ S.pin, S'.grow, S.len, fun j d' h => ?_, fun j d' h => ?_, S.uniq⟩
  · obtain ⟨w, h1, h2⟩ := S.val j d' h
    exact ⟨w, h1, Den.mv mv h2⟩
  · obtain ⟨p', h1, h2, h3, h4, h5⟩ := S.own j d' h
    refine ⟨p', h1, h2, h3, fun z => z.elim h4 fun e => ?_, h5.mv mv fun u z _ => by rw [upd_ne (ne_of_none z hD)]; exact z⟩
    obtain ⟨u, q, _⟩ := h5.there
    rw [e, hD] at q; cases q
/-- what is left out changes -/
theorem Stt.outC {D' : Addr} (S : Stt P g E H0 ss σ H) (hE : E.x D') {xs : List V} {o : HO} (hD : H D' = some (.lst xs)) (no : NT o) (h0 : H0 D' = none) (nW : ¬ g.W D') (nO : ¬ ownA σ ss D') : Stt P g E H0 ss σ (upd H D' o) := by
  have inR : Rg g E σ ss D' := .inr (.inl hE)
  have mv : Mv g g (Rg g E σ ss) (Rg g E σ ss) H (upd H D' o) := ⟨fun a u n q t => ⟨by rw [upd_ne (fun z => n (by rw [z]; exact inR))]; exact q, n⟩, fun _ _ b => b⟩
  refine ⟨⟨fun q hq => ?_, g.hinv _ _ (fun a u w q => by rw [upd_ne (fun z => nW (by rw [← z]; exact w))]; exact q) S.sg.inv, fun a r => ?_⟩, E.hz _ _ _ _ mv.at_ S.pin, S.grow.mut h0, S.len, fun j d' h => ?_, fun j d' h => ?_, S.uniq⟩
  · obtain ⟨ps, q1, q2, q3⟩ := S.sg.tabs q hq
    refine ⟨ps, by rw [upd_ne (fun z => by rw [z, hD] at q1; cases q1)]; exact q1, q2, fun pos cv hc => ?_⟩
    obtain ⟨c', e1, e2⟩ := q3 pos cv hc
    exact ⟨c', e1, by rw [upd_ne (fun z => by rw [z, hD] at e2; unfold CodeO at e2; cases e2)]; exact e2⟩
  · by_cases z : a = D'
    · exact ⟨o, by rw [z, upd_same], no⟩
    · obtain ⟨u, q, n⟩ := S.sg.trk a r
      exact ⟨u, by rw [upd_ne z]; exact q, n⟩
  · obtain ⟨w, h1, h2⟩ := S.val j d' h
    exact ⟨w, h1, Den.mv mv h2⟩
  · obtain ⟨p', h1, h2, h3, h4, h5⟩ := S.own j d' h
    exact ⟨p', h1, h2, h3, h4, h5.mv mv fun u z _ => by rw [upd_ne (fun e => nO ⟨j, d', h, by rw [h1, e]⟩)]; exact z⟩
theorem Stt.outE (S : Stt P g (E.out D') H0 ss σ H) : Stt P g E H0 ss σ H := by
  have sub : ∀ a, Rg g E σ ss a → Rg g (E.out D') σ ss a := fun a r => (rg_out a).mpr (.inl r)
  refine ⟨S.sg.sub sub, E.hz _ _ _ _ (fun a o n q t => ⟨q, fun r => n (sub a r)⟩) S.pin, S.grow, S.len, fun j d' h => ?_, fun j d' h => ?_, S.uniq⟩
  · obtain ⟨w, h1, h2⟩ := S.val j d' h
    exact ⟨w, h1, Den.mv (Mv.sub sub) h2⟩
  · obtain ⟨p', h1, h2, h3, h4, h5⟩ := S.own j d' h
    exact ⟨p', h1, h2, h3, fun z => h4 (.inl z), h5.mv (Mv.sub sub) fun u z _ => z⟩
abbrev noX : Err → SS → Prop := fun _ _ => False
theorem TX.no {X : Cx} : TX X P g E H0 noX := .inl fun _ _ z => z
structure DTs (X : Cx) (P : Gl0) (g : G) (ifs : List Expr) (t : TB) : Prop where
  ex : ∃ tt : TT, PTs X ifs tt ∧ ∀ (σ : St) (H : Hp) (E : Ex) (H0 : Hp) (ss : SS) (Q : Bool → Prop) (Qx : Err → SS → Prop) (K : Bool → Hp → Prop), Stt P g E H0 ss σ H → TX X P g E H0 Qx → t ss Q Qx → (∀ b H', Stt P g E H0 ss σ H' → Ext g.W H H' → Q b → K b H') → tt σ H K
def vYes : TB := fun _ Q _ => Q true
theorem ts_nil : DTs X P g [] vYes := ⟨_, pts_nil, fun σ H E H0 ss Q Qx K S T h k => k true H S (Ext.refl _ _) h⟩
theorem ts_one (h : DT X P g c tt) : DTs X P g [c] tt := ⟨_, pts_one h.pt, fun σ H E H0 ss Q Qx K S T hh k => upT.run S T hh k⟩
/-- I: what holds of the list made so far -/
def vLc (js : List Nat) (ti : TL) (tg : TG') (tt : TB) (te : TD) : TL := fun ss Q Qx => noOwn ss js ∧ ti ss (fun l => l.length ≤ 1000000 ∧ ∃ I : Nat → List D → Prop, I 0 [] ∧
  (∀ i d acc, l[i]? = some d → I i acc → tg d (wipeS ss js) (fun ss' => tt ss' (fun b => match b with | true => te ss' (fun v => I (i + 1) (acc ++ [v])) noX | false => I (i + 1) acc) noX)) ∧ ∀ acc, I l.length acc → Q acc) Qx
theorem lc_run {wi : TI} {gt : TG} {tt' : TT} {tz : TE} {js : List Nat} {σ : St} {Q : List D → Prop} {Qx : Err → SS → Prop} {K : VK}
    (i2 : ∀ (σ : St) (H : Hp) (E : Ex) (H0 : Hp) (ss : SS) (Q : List D → Prop) (Qx : Err → SS → Prop) (R : It → Hp → Prop), Stt P g E H0 ss σ H → TX X P g E H0 Qx → tl ss Q Qx →
      (∀ J H1 l z, Stt P g E H0 ss σ H1 → Ext g.W H H1 → Src P g J l z → z H1 (Rg g E σ ss) → Q l → R J H1) → wi σ H R)
    (g2 : ∀ (v : V) (d : D) (σ : St) (H : Hp) (E : Ex) (H0 : Hp) (ss : SS) (Q : SS → Prop) (K : St → Hp → Prop), Stt P g E H0 ss σ H → Den P g (Rg g E σ ss) H v d → tgt d ss Q →
      (∀ σ' ss', Stt P g E H0 ss' σ' H → (∀ x, Rg g E σ' ss' x → Rg g E σ ss x) → (noOwn ss js → ∀ x, Rg g E σ ss x → Rg g E σ' ss' x) → L2.wipe σ' js = L2.wipe σ js → Q ss' → K σ' H) → gt v σ H K)
    (t2 : ∀ (σ : St) (H : Hp) (E : Ex) (H0 : Hp) (ss : SS) (Q : Bool → Prop) (K : Bool → Hp → Prop), Stt P g E H0 ss σ H → tt ss Q noX → (∀ b H', Stt P g E H0 ss σ H' → Ext g.W H H' → Q b → K b H') → tt' σ H K)
    (e2 : ∀ (σ : St) (H : Hp) (E : Ex) (H0 : Hp) (ss : SS) (Q : D → Prop) (K : VK), Stt P g E H0 ss σ H → te ss Q noX → (∀ v H' d, Stt P g E H0 ss σ H' → Ext g.W H H' → Den P g (Rg g E σ ss) H' v d → Q d → K v H') → tz σ H K)
    (S : Stt P g E H0 ss σ H) (T : TX X P g E H0 Qx) (h : vLc js tl tgt tt te ss Q Qx)
    (k : ∀ H1 p vs l, Stt P g E H0 ss σ H1 → Ext g.W H H1 → H p = none → ¬ Rg g E σ ss p → H1 p = some (.lst vs) → DenL P g (fun a => Rg g E σ ss a ∨ a = p) H1 vs l → Q l → K (.ref p) H1) : tLc wi gt tt' tz js σ H K := by
  obtain ⟨no, h⟩ := h
  refine i2 σ H E H0 ss _ _ _ S T h fun J H1 l z S1 e1 src hz q => ?_
  obtain ⟨hlen, I, I0, It, Id⟩ := q
  intro D hD
  have hD0 : H D = none := e1.gone D hD
  have fD : ¬ Rg g E σ ss D := S1.fresh hD
  have nW : ¬ g.W D := fun w => fD (Rg.W w)
  have nO : ¬ ownA σ ss D := fun w => fD (.inr (.inr w))
  -- the frame: the source
  let E1 : Ex := (E.out D).add z src.hz
  have S2 : Stt P g E1 H0 ss σ (upd H1 D (.lst [])) := (S1.outN hD NT.lst).add (src.hz _ _ _ _ (fun a u n q t => ⟨by rw [upd_ne (ne_of_none q hD)]; exact q, fun r => ((rg_out a).mp r).elim n (ne_of_none q hD)⟩) hz)
  refine ⟨fun i m H2 => m = l.length - i ∧ i ≤ l.length ∧ ∃ vs acc, H2 D = some (.lst vs) ∧ DenL P g (Rg g E1 σ ss) H2 vs acc ∧ acc.length ≤ i ∧ I i acc ∧ Stt P g E1 H0 ss σ H2 ∧ Ext g.W H1 H2, ⟨l.length, by simp, Nat.zero_le _, [], [], upd_same, .nil, Nat.le_refl _, I0, S2, Ext.new hD⟩, ?_⟩
  rintro i m H2 ⟨rfl, hi, vs, acc, hvs, hden, hacc, hI, S3, e3⟩
  have trk : ∀ a, Rg g E1 σ ss a → H2 a ≠ none := fun a r => by
    obtain ⟨o, q, _⟩ := S3.sg.trk a r
    rw [q]; exact fun z => by cases z
  by_cases hlt : i < l.length
  · refine .inr ⟨src.go i H2 _ S3.sg.inv S3.pinned hlt, fun H' => ∃ vs acc, H' D = some (.lst vs) ∧ DenL P g (Rg g E1 σ ss) H' vs acc ∧ acc.length ≤ i + 1 ∧ I (i + 1) acc ∧ Stt P g E1 H0 ss σ H' ∧ Ext g.W H1 H', fun H' q => ⟨l.length - (i + 1), by omega, rfl, hlt, q⟩, fun x H3 y => ?_⟩
    have hd : l[i]? = some l[i] := List.getElem?_eq_getElem hlt
    obtain ⟨k1, k2⟩ := src.yld i H2 _ x H3 _ S3.sg.inv S3.pinned trk hd y
    have S4 : Stt P g E1 H0 ss σ H3 := S3.same k1
    have SW := S4.wipe js
    have rw1 : ∀ a, Rg g E1 (L2.wipe σ js) (wipeS ss js) a ↔ Rg g E1 σ ss a := fun a => rg_wipe a no
    have x2 : Den P g (Rg g E1 (L2.wipe σ js) (wipeS ss js)) H3 x l[i] := Den.mv (Mv.sub fun a r => (rw1 a).mp r) k2
    refine g2 x l[i] _ H3 E1 H0 _ _ _ SW x2 (It i _ acc hd hI) fun σ5 ss5 S5 r5 r5' w5 q5 => ?_
    have ww : L2.wipe (L2.wipe σ js) js = L2.wipe σ js := by
      have go : ∀ ks : List Nat, (∀ k ∈ ks, k ∈ js) → L2.wipe (L2.wipe σ ks) js = L2.wipe σ js := by
        intro ks
        induction ks with
        | nil => intro _; rfl
        | cons k ks ih =>
          intro hk
          show L2.wipe ((L2.wipe σ ks).set k none) js = _
          rw [wipe_set _ _ _ _ (hk k List.mem_cons_self), ih fun k h => hk k (List.mem_cons_of_mem _ h)]
      exact go js fun _ h => h
    refine ⟨w5.trans ww, t2 σ5 H3 E1 H0 ss5 _ _ S5 q5 fun b H4 S6 e6 q6 => ?_⟩
    have D4 : H4 D = some (.lst vs) := e6.keep D _ (k1 D _ hvs) NT.lst nW
    have R5 : ∀ a, Rg g E1 σ5 ss5 a → Rg g E1 σ ss a := fun a r => (rw1 a).mp (r5 a r)
    have R5' : ∀ a, Rg g E1 σ ss a → Rg g E1 σ5 ss5 a := fun a r => r5' (wipeS_noOwn js js fun _ h => h) a ((rw1 a).mpr r)
    cases b with
    | true =>
      refine iteT (e2 σ5 H4 E1 H0 ss5 _ _ S6 q6 fun v H5 d S7 e7 n7 q7 => ?_)
      have D5 : H5 D = some (.lst vs) := e7.keep D _ D4 NT.lst nW
      have e25 : Ext g.W H2 H5 := (Ext.ofSame k1).trans (e6.trans e7)
      -- the state with the outer slots, at H5
      have S8 : Stt P g E1 H0 ss σ H5 := S3.back S7 e25
      have hden5 : DenL P g (Rg g E1 σ ss) H5 vs acc := denL_W e25 hden
      have n8 : Den P g (Rg g E1 σ ss) H5 v d := Den.mv (Mv.sub R5') n7
      have inR : Rg g E1 σ ss D := .inr (.inl (.inr rfl))
      have mv : Mv g g (Rg g E1 σ ss) (Rg g E1 σ ss) H5 (upd H5 D (.lst (vs ++ [v]))) := ⟨fun a u n q t => ⟨by rw [upd_ne (fun z => n (by rw [z]; exact inR))]; exact q, n⟩, fun _ _ b => b⟩
      exact ⟨vs, D5, by rw [hden.length]; exact Nat.lt_of_lt_of_le (show acc.length < 1000001 by omega) (by decide), vs ++ [v], acc ++ [d], upd_same, (DenL.mv mv hden5).append (.cons (Den.mv mv n8) .nil), by rw [List.length_append]; simp; omega, q7, S8.outC (.inr rfl) D5 NT.lst (S1.fresh0 hD) nW nO, (e3.trans e25).mut hD⟩
    | false =>
      have e24 : Ext g.W H2 H4 := (Ext.ofSame k1).trans e6
      exact iteF ⟨vs, acc, D4, denL_W e24 hden, by omega, q6, S3.back S6 e24, e3.trans e24⟩
  · have ei : i = l.length := by omega
    subst ei
    refine .inl ⟨src.stop _ H2 _ S3.sg.inv S3.pinned rfl, k H2 D vs acc S3.drop.outE (e1.trans e3) hD0 fD hvs (DenL.mv (Mv.sub fun a r => (rg_out a).mpr r) hden) (Id acc hI)⟩
end
end DL

set_option maxRecDepth 100000
set_option maxHeartbeats 4000000
namespace DL
open PySem L2 LamX NdefX

section
variable {X : Cx} {P : Gl0} {g : G} {a b c e tg iter elt : Expr} {es ifs : List Expr} {ta tb tc te : TD} {tt uu : TB} {tl : TL} {ts us : TSt} {pos : Pos} {st : Stmt} {rest body : List Stmt} {js : List Nat} {tgt : TG'}
variable {E E' : Ex} {H0 H H1 H' : Hp} {ss ss' : SS} {σ σ' : St}

/-! ### comprehensions -/
def upG (P : Gl0) (g : G) (js : List Nat) (t : TG') : TG := fun v σ H K => ∃ d E H0 ss Q, Stt P g E H0 ss σ H ∧ Den P g (Rg g E σ ss) H v d ∧ t d ss Q ∧
  ∀ σ' ss', Stt P g E H0 ss' σ' H → (∀ x, Rg g E σ' ss' x → Rg g E σ ss x) → (noOwn ss js → ∀ x, Rg g E σ ss x → Rg g E σ' ss' x) → wipe σ' js = wipe σ js → Q ss' → K σ' H
theorem DG.pg (h : DG X P g tg js tgt) : PG X tg (upG P g js tgt) := by
  obtain ⟨gt, g1, g2⟩ := h.ex
  exact ⟨fun pins s σ H v u K I r ⟨d, E, H0, ss, Q, S, n, ht, k⟩ => g1.run pins s σ H v u K I r (g2 v d σ H E H0 ss Q K S n ht k)⟩
def upE0 (P : Gl0) (g : G) (t : TD) : TE := fun σ H K => ∃ E H0 ss Q, Stt P g E H0 ss σ H ∧ t ss Q noX ∧ ∀ v H', EPD P g E H0 ss σ H Q v H' → K v H'
theorem DE.pe0 (h : DE X P g e ta) : PE X e (upE0 P g ta) := ⟨fun pins s σ H K I ⟨E, H0, ss, Q, S, ht, k⟩ => thn (h.run pins s σ H E H0 ss Q noX I S .no ht) fun u s' ⟨v, H', I', r, q⟩ => ⟨v, H', I', r, k v H' q⟩⟩
def upT0 (P : Gl0) (g : G) (t : TB) : TT := fun σ H K => ∃ E H0 ss Q, Stt P g E H0 ss σ H ∧ t ss Q noX ∧ ∀ b H', Stt P g E H0 ss σ H' → Ext g.W H H' → Q b → K b H'
theorem DTs.pts0 (h : DTs X P g ifs tt) : PTs X ifs (upT0 P g tt) := by
  obtain ⟨t, h1, h2⟩ := h.ex
  exact ⟨fun pins s σ H K I ⟨E, H0, ss, Q, S, ht, k⟩ => h1.run pins s σ H K I (h2 σ H E H0 ss Q noX K S .no ht k)⟩
def hid (H : Hp) (p : Addr) : Hp := fun a => if a = p then none else H a
theorem hid_ne {H : Hp} {p a : Addr} (h : a ≠ p) : hid H p a = H a := if_neg h
theorem hid_same {H : Hp} {p : Addr} : hid H p p = none := if_pos rfl
theorem upd_hid {H : Hp} {p : Addr} {o : HO} (h : H p = some o) : upd (hid H p) p o = H := by
  funext a
  by_cases e : a = p
  · rw [e, upd_same, h]
  · rw [upd_ne e, hid_ne e]
/-- what holds of a new list's expression -/
def LawN (P : Gl0) (g : G) (X : Cx) (te : TE) (t : TL) : Prop := ∀ (σ : St) (H : Hp) (E : Ex) (H0 : Hp) (ss : SS) (Q : List D → Prop) (Qx : Err → SS → Prop) (K : VK), Stt P g E H0 ss σ H → TX X P g E H0 Qx → t ss Q Qx →
    (∀ H1 p vs l, Stt P g E H0 ss σ H1 → Ext g.W H H1 → H1 p = none → DenL P g (Rg g E σ ss) H1 vs l → Q l → K (.ref p) (upd H1 p (.lst vs))) → te σ H K
theorem lc_law {wi : TI} {js : List Nat} (i2 : ∀ (σ : St) (H : Hp) (E : Ex) (H0 : Hp) (ss : SS) (Q : List D → Prop) (Qx : Err → SS → Prop) (R : It → Hp → Prop), Stt P g E H0 ss σ H → TX X P g E H0 Qx → tl ss Q Qx →
    (∀ J H1 l z, Stt P g E H0 ss σ H1 → Ext g.W H H1 → Src P g J l z → z H1 (Rg g E σ ss) → Q l → R J H1) → wi σ H R) : LawN P g X (tLc wi (upG P g js tgt) (upT0 P g tt) (upE0 P g te) js) (vLc js tl tgt tt te) := by
  intro σ H E H0 ss Q Qx K S T h k
  refine lc_run (js := js) (gt := upG P g (js) tgt) (tt' := upT0 P g tt) (tz := upE0 P g te) (tgt := tgt) (tt := tt) (te := te) i2 (fun v d σ H E H0 ss Q K S n ht k => ⟨d, E, H0, ss, Q, S, n, ht, k⟩) (fun σ H E H0 ss Q K S ht k => ⟨E, H0, ss, Q, S, ht, k⟩) (fun σ H E H0 ss Q K S ht k => ⟨E, H0, ss, Q, S, ht, fun v H' ⟨d, a, b, c, q⟩ => k v H' d a b c q⟩) S T h
    fun H1 p vs l S1 e1 hp fp hv dl q => ?_
  have e1' : Ext g.W H (hid H1 p) := ⟨fun a o h n w => by rw [hid_ne (ne_of_none h hp)]; exact e1.keep a o h n w, fun a h => by
    by_cases z : a = p
    · rw [z]; exact hp
    · rw [hid_ne z] at h; exact e1.gone a h⟩
  have sg : SG P g (Rg g E σ ss) (hid H1 p) := ⟨fun q hq => by
      obtain ⟨ps, q1, q2, q3⟩ := S1.sg.tabs q hq
      refine ⟨ps, by rw [hid_ne (fun z => by rw [z, hv] at q1; cases q1)]; exact q1, q2, fun pos cv hc => ?_⟩
      obtain ⟨c', e1, e2⟩ := q3 pos cv hc
      exact ⟨c', e1, by rw [hid_ne (fun z => by rw [z, hv] at e2; unfold CodeO at e2; cases e2)]; exact e2⟩,
    g.hinv _ _ (fun a o w h => by rw [hid_ne (fun z => fp (by rw [← z]; exact Rg.W w))]; exact h) S1.sg.inv,
    fun a r => by
      obtain ⟨o, q, n⟩ := S1.sg.trk a r
      exact ⟨o, by rw [hid_ne (fun z => fp (by rw [← z]; exact r))]; exact q, n⟩⟩
  have := k (hid H1 p) p vs l (S.ext e1' sg) e1' hid_same (DenL.mv ⟨fun a o n h t => ⟨by rw [hid_ne (fun z => n (.inr z))]; exact h, fun r => n (.inl r)⟩, fun _ _ b => b⟩ dl) q
  rw [upd_hid hv] at this
  exact this
theorem n_lc {scope : Scope} {own : List (Str × Nat)} (hc : X.calm = true) (hN : X.N.Nodup) (hi : DI X P g tg iter tl) (ok : BlkOk X.N X.env.scope scope own)
    (hg : ∀ (s : Shared) (H : Hp) (C : Addr) (cl : List (Str × Addr)) (fp : List Addr), DG (X.blk s H scope (compEnvC scope cl C X.env) fp) P g tg (own.map (·.2)) tgt)
    (ht : ∀ (s : Shared) (H : Hp) (C : Addr) (cl : List (Str × Addr)) (fp : List Addr), DTs (X.blk s H scope (compEnvC scope cl C X.env) fp) P g ifs tt)
    (he : ∀ (s : Shared) (H : Hp) (C : Addr) (cl : List (Str × Addr)) (fp : List Addr), DE (X.blk s H scope (compEnvC scope cl C X.env) fp) P g elt te) (hs : ∀ x, foldedSetIterable iter X.env x = pure x := by intro _; rfl) :
    DN X P g (.ListComp elt [⟨tg, iter, ifs, 0⟩] scope pos) (vLc (own.map (·.2)) tl tgt tt te) := by
  obtain ⟨wi, i1, i2⟩ := hi.ex
  exact ⟨_, pe_lc hc hN i1 ok (fun s H C cl fp => (hg s H C cl fp).pg) (fun s H C cl fp => (ht s H C cl fp).pts0) (fun s H C cl fp => (he s H C cl fp).pe0) hs, lc_law i2⟩
/-- a name that is set to a new list, in one step -/
structure DNA (X : Cx) (P : Gl0) (g : G) (st : Stmt) (i : Nat) (t : TL) : Prop where
  ex : ∃ te : TE, PS X st (tAsg te (gName i)) ∧ LawN P g X te t
theorem na_lc (i : Nat) {y : Str} {py spos : Pos} {scope : Scope} {own : List (Str × Nat)} (hc : X.calm = true) (hN : X.N.Nodup) (hi : DI X P g tg iter tl) (ok : BlkOk X.N X.env.scope scope own)
    (hg : ∀ (s : Shared) (H : Hp) (C : Addr) (cl : List (Str × Addr)) (fp : List Addr), DG (X.blk s H scope (compEnvC scope cl C X.env) fp) P g tg (own.map (·.2)) tgt)
    (ht : ∀ (s : Shared) (H : Hp) (C : Addr) (cl : List (Str × Addr)) (fp : List Addr), DTs (X.blk s H scope (compEnvC scope cl C X.env) fp) P g ifs tt)
    (he : ∀ (s : Shared) (H : Hp) (C : Addr) (cl : List (Str × Addr)) (fp : List Addr), DE (X.blk s H scope (compEnvC scope cl C X.env) fp) P g elt te) (hy : X.N[i]? = some y := by rfl) (hyl : X.env.scope.names.lookup y = some .local := by rfl) (hsw : swapsWith (.ListComp elt [⟨tg, iter, ifs, 0⟩] scope pos) (some (.Name y py)) spos.line X.env = pure true := by rfl) (hs : ∀ x, foldedSetIterable iter X.env x = pure x := by intro _; rfl) :
    DNA X P g (.Assign [.Name y py] (.ListComp elt [⟨tg, iter, ifs, 0⟩] scope pos) spos) i (vLc (own.map (·.2)) tl tgt tt te) := by
  obtain ⟨wi, i1, i2⟩ := hi.ex
  exact ⟨_, ps_setLc hc hN hy hyl hsw i1 ok (fun s H C cl fp => (hg s H C cl fp).pg) (fun s H C cl fp => (ht s H C cl fp).pts0) (fun s H C cl fp => (he s H C cl fp).pe0) hs, lc_law i2⟩
theorem s_setA {i : Nat} (h : DNA X P g st i tl) : DS X P g st (vSet i (vNew tl)) := by
  obtain ⟨te, h1, h2⟩ := h.ex
  exact DS.of h1 fun σ H E H0 ss N S T h => h2 σ H E H0 ss _ _ _ S T h fun H1 p vs l S1 e1 hp n q => ⟨_, (S1.new hp).set i (.lst (S1.fresh hp) upd_same (denL_W (Ext.new hp) n)), q⟩
theorem s_ownA {i : Nat} (h : DNA X P g st i tl) : DS X P g st (vOwn i tl) := by
  obtain ⟨te, h1, h2⟩ := h.ex
  exact DS.of h1 fun σ H E H0 ss N S T h => h2 σ H E H0 ss _ _ _ S T h fun H1 p vs l S1 e1 hp n q => ⟨_, S1.setOwn i hp NT.lst fun R' H' m z => .lst z (DenL.mv m n), q⟩
end
end DL

set_option maxRecDepth 100000
set_option maxHeartbeats 4000000
namespace DL
open PySem PySem.Spec PyProof.Rows L2 LamX NdefX

section
variable {X : Cx} {P : Gl0} {g : G} {a b c e tg iter elt : Expr} {es ifs : List Expr} {ta tb tc te : TD} {tt uu : TB} {tl : TL} {ts us : TSt} {pos : Pos} {st : Stmt} {rest body : List Stmt} {js : List Nat} {tgt : TG'}
variable {E E' : Ex} {H0 H H1 H' : Hp} {ss ss' : SS} {σ σ' : St}

/-! ### a contract within no repr -/
structure FnG (Pr : Program) (w : World) (K : PySem.W.Frag) (mg : Str → Option Value) (base : Heap) (CX : CXT) (k : Nat) (f : Addr) (fd : FuncData) (ps : List Str) (sp : Sp) : Prop where
  len : ∀ vs H Q E, sp vs H Q E → vs.length = ps.length
  run : ∀ (A : Around) (outer : List Env) (s : Shared) (H : Hp) (args : Args) (us : List Value) (vs : List V) (Q : VK) (E : XK), Room k A → A.guards = some [] → Env0 Pr w K mg base A outer s H → BindsTo s fd args (ps.zip us) → Vals vs us → sp vs H Q E →
    codeAny (model Pr w) A (.call (.ref f) args) (CR CX outer Pr w H s Q E) s
theorem FnG.mono {Pr : Program} {w : World} {K : PySem.W.Frag} {mg : Str → Option Value} {base : Heap} {CX : CXT} {j k : Nat} {f : Addr} {fd : FuncData} {ps : List Str} {sp : Sp} (F : FnG Pr w K mg base CX j f fd ps sp) (h : j ≤ k) : FnG Pr w K mg base CX k f fd ps sp :=
  ⟨F.len, fun A outer s H args us vs Q E hr => F.run A outer s H args us vs Q E (hr.mono h)⟩
theorem deeper_guards {A : Around} {env : Env} (h : A.guards = some []) : (A.deeper env).guards = some [] := by
  first | exact h | (simpa [Around.deeper] using h)
/-- by the body -/
theorem fnG_of {CX : CXT} {Pr : Program} {w : World} {K : PySem.W.Frag} {mg : Str → Option Value} {base : Heap} {k : Nat} {f : Addr} {fd : FuncData} {x qual : Str} {N ps : List Str} {sp : Sp} (F : L2.Fun K x qual st f fd) (S : FnScope N ps (defScope st)) (len : ∀ vs H Q E, sp vs H Q E → vs.length = ps.length)
    (hbody : ∀ (cdv : Value) (A : Around) (outer : List Env) (s : Shared) (H : Hp) (vs : List V) (Q : VK) (E : XK), Room k (A.deeper (envOfC qual (defScope st) s.heap.objs.size f cdv)) → (A.deeper (envOfC qual (defScope st) s.heap.objs.size f cdv)).guards = some [] → sp vs H Q E →
      ∃ t, PSs (cxOf CX Pr w K mg base N qual (defScope st) f cdv A outer s H E) (defBody st) t ∧ t { nx := fun _ H' => Q .non H', rt := Q } (L2.start N vs) H) : FnG Pr w K mg base CX (k + 1) f fd ps sp := by
  obtain ⟨oc, od, kV, doc, pm, an, cdv, ct, osl, rfl, lk, hcd⟩ := F.ex
  refine ⟨len, fun A outer s H args us vs Q E hr hgd e0 hb r hsp => ?_⟩
  have kp : ∀ b o, base.get? b = some o → s.heap.get? b = some o := fun b o e => (e0.bs b o e).1
  have KX : K.In s.heap := e0.mod.kin.keeps kp
  refine codeAny_call_function hr.depth (KX _ _ lk) rfl S.co S.gen rfl (PySem.W.codeRec_of KX hcd) (hb _ _ _ _ ?_)
  refine wpAny_newFunctionEnv_cells S.kind (fun y hy => ?_) fun env he s1 x => ?_
  · have hp := (List.of_mem_zip hy).1
    rcases S.par y.1 hp with q | q
    · exact .inl q
    · exact .inr ⟨q, PySem.W.cellsFrom_some _ _ _ (.inl q)⟩
  · subst he
    refine ⟨(e0.mod.nolimit.keeps kp).keeps x.toInCall.keep, codeAny_func ?_⟩
    obtain ⟨t, ht, hq⟩ := hbody cdv A outer s H vs Q E (hr.deeper _) (deeper_guards hgd) hsp
    have hI := inv_start (CX := CX) (E := E) S hr.hd e0 (len _ _ _ _ hsp) r x
    refine wpAny_mono (ht.run [] s1 (L2.start N vs) H _ hI hq) (fun fl s' hs => ?_) fun e s' hs => hs
    cases fl with
    | ret u =>
      obtain ⟨v, σ', H', J, rv, q⟩ := hs
      exact ⟨v, H', J.os, J.bare, J.base, J.hok, rv, q⟩
    | next =>
      obtain ⟨σ', H', J, q⟩ := hs
      exact ⟨.non, H', J.os, J.bare, J.base, J.hok, rfl, q⟩
    | brk => obtain ⟨_, _, _, q⟩ := hs; exact q.elim
    | cont => obtain ⟨_, _, _, q⟩ := hs; exact q.elim
/-- at a call -/
theorem run_fnG {CX : CXT} {k : Nat} {f : Addr} {fd : FuncData} {ps : List Str} {sp : Sp} {XE : XK} {pins : List (Addr × Obj)} {s : Shared} {Q : VK} {us : List Value} {vs : List V} (F : FnG X.prog X.w X.K X.mg X.base CX k f fd ps sp) (hr : Room k X.A) (hgd : X.A.guards = some []) (hb : Binds X.K fd ps [])
    (hx : PassesAt CX X σ XE) (I : Inv X pins σ H s) (r : Vals vs us) (h : sp vs H Q XE) : wpAny (model X.prog X.w) X.A (call (.ref f) us) (EP X pins σ Q) X.xe s := by
  have hl : (us ++ []).length = ps.length := by rw [List.append_nil, ← r.length]; exact F.len _ _ _ _ h
  have b := hb s us I.kIn hl
  rw [List.append_nil] at b
  refine wpAny_call (codeAny_mono (F.run X.A X.stack s H ⟨us, []⟩ us vs Q XE hr hgd I.env0 b r h) fun r s' hq => ?_)
  cases r with
  | error e => exact hx pins H s e s' I hq
  | ok fl =>
    cases fl with
    | ret u => exact I.after hq
    | next => exact False.elim hq
    | brk => exact False.elim hq
    | cont => exact False.elim hq
/-! ### defs -/
def startS (N : List Str) (ds : List D) : SS := ds.map Sl.v ++ List.replicate (N.length - ds.length) Sl.u
abbrev Ctr := List D → (D → Prop) → (Err → Prop) → Prop
/-- a contract over data, as the layer below wants it -/
def spD (P : Gl0) (gp : B → Prop) (n : Nat) (c : Ctr) : Sp := fun vs H Q E => ∃ (g : G) (ds : List D) (Qd : D → Prop) (Qx : Err → Prop), gp g.toB ∧ vs.length = n ∧ SG P g g.M H ∧ DenL P g g.M H vs ds ∧ c ds Qd Qx ∧
  (∀ v H' d, Ext g.W H H' → SG P g g.M H' → Den P g g.M H' v d → Qd d → Q v H') ∧ (∀ cls dd H' e, Ext g.W H H' → SG P g g.M H' → ErrD P g g.M H' cls dd e → Qx e → E cls dd H')
def E00 : Ex := ⟨fun _ => False, fun _ _ => True, fun _ _ _ _ _ _ => trivial⟩
theorem startS_own {N : List Str} {ds : List D} {i : Nat} {d : D} (h : (startS N ds)[i]? = some (.own d)) : False := by
  unfold startS at h
  have hm := List.mem_of_getElem? h
  rcases List.mem_append.mp hm with hm | hm
  · obtain ⟨_, _, z⟩ := List.mem_map.mp hm
    cases z
  · cases (List.mem_replicate.mp hm).2
theorem rg_start {N : List Str} {ds : List D} {vs : List V} (x : Addr) : Rg g E00 (L2.start N vs) (startS N ds) x ↔ g.M x := by
  constructor
  · rintro (h | h | ⟨i, d, h, _⟩)
    · exact h
    · exact h.elim
    · exact (startS_own h).elim
  · exact .inl
theorem stt_start {N : List Str} {ds : List D} {vs : List V} (sg : SG P g g.M H) (dl : DenL P g g.M H vs ds) : Stt P g E00 H (startS N ds) (L2.start N vs) H := by
  have hl := dl.length
  refine ⟨sg.sub fun a r => (rg_start a).mp r, trivial, Ext.refl _ _, ?_, fun i d h => ?_, fun i d h => (startS_own h).elim, fun i j d e a h => (startS_own h).elim⟩
  · unfold startS L2.start
    simp [hl]
  · unfold startS at h
    unfold L2.start
    by_cases hi : i < ds.length
    · rw [List.getElem?_append_left (by rw [List.length_map]; exact hi), List.getElem?_map] at h
      obtain ⟨d', h1, h2⟩ := Option.map_eq_some_iff.mp h
      cases h2
      obtain ⟨v, h3, h4⟩ := dl.get h1
      refine ⟨v, ?_, Den.mv (Mv.sub fun a r => (rg_start a).mp r) h4⟩
      rw [List.getElem?_append_left (by rw [List.length_map, hl]; exact hi), List.getElem?_map, h3]
      rfl
    · rw [List.getElem?_append_right (by rw [List.length_map]; omega)] at h
      have := List.mem_of_getElem? h
      cases (List.mem_replicate.mp this).2
/-- the wishes at a body's ends -/
def endsD (Qd : D → Prop) (Qx : Err → Prop) : DEnds := { nx := fun _ => Qd .non, rt := Qd, ex := fun e _ => Qx e }
theorem fnD {Pr : Program} {w : World} {K : PySem.W.Frag} {mg : Str → Option Value} {base : Heap} {x qual : Str} {f : Addr} {fd : FuncData} {N ps : List Str} {k : Nat} {gp : B → Prop} {c : Ctr} {t : TSt}
    (F : L2.Fun K x qual st f fd) (S : FnScope N ps (defScope st))
    (hbody : ∀ (g : G), gp g.toB → ∀ (cdv : Value) (A : Around) (outer : List Env) (s : Shared) (H : Hp) (E : XK), Room k (A.deeper (envOfC qual (defScope st) s.heap.objs.size f cdv)) → (A.deeper (envOfC qual (defScope st) s.heap.objs.size f cdv)).guards = some [] → DSs (cxOf (L2.CX Pr w) Pr w K mg base N qual (defScope st) f cdv A outer s H E) P g (defBody st) t)
    (read : ∀ ds Qd Qx, ds.length = ps.length → c ds Qd Qx → t (endsD Qd Qx) (startS N ds)) : FnG Pr w K mg base (L2.CX Pr w) (k + 1) f fd ps (spD P gp ps.length c) := by
  refine fnG_of F S (fun vs H Q E ⟨g, ds, Qd, Qx, _, h, _⟩ => h) fun cdv A outer s H vs Q E hr hgd hsp => ?_
  obtain ⟨g, ds, Qd, Qx, hgp, hl, sg, dl, hc, hq, hx⟩ := hsp
  have hds : ds.length = ps.length := by rw [← dl.length]; exact hl
  have sub : ∀ {E : Ex} {σ : St} {ss : SS} a, g.M a → Rg g E σ ss a := fun a r => .inl r
  have key : ∀ {σ : St} {ss : SS} {H' : Hp} {v : V} {d : D}, Stt P g E00 H ss σ H' → Den P g g.M H' v d → Qd d → Q v H' := fun S' n q => hq _ _ _ S'.grow (S'.sg.sub fun a r => sub a r) n q
  refine ⟨_, (hbody g hgp cdv A outer s H E hr hgd).pss, E00, H, startS N ds, endsD Qd Qx, stt_start sg dl, .inr ?_, read ds Qd Qx hds hc, ?_, ?_, ?_, ?_⟩
  · refine (takes_of rfl rfl rfl rfl).imp fun cls dd σ H' ⟨err, ss, S', h1, h2⟩ => hx cls dd H' err S'.grow (S'.sg.sub fun a r => sub a r) (ErrD.mv (Mv.sub fun a r => sub a r) h1) h2
  · rintro σ' H' ⟨ss', S', q⟩
    exact key S' .non q
  · rintro σ' H' ⟨ss', S', q⟩
    exact q.elim
  · rintro σ' H' ⟨ss', S', q⟩
    exact q.elim
  · rintro v H' ⟨d, σ, ss, S', n, q⟩
    exact key S' (Den.mv (Mv.sub fun a r => .inl r) n) q
def vCall (n : Nat) (c : Ctr) (tl : TL) : TD := fun ss Q Qx => tl ss (fun ds => ds.length = n ∧ c ds Q (fun e => Qx e ss)) Qx
/-- the caller's context as the callee has it -/
def G.at (g : G) (E : Ex) (σ : St) (ss : SS) : G := { toB := g.toB, M := Rg g E σ ss, hW := fun a w => Rg.W w }
theorem mv_at {R R' : Addr → Prop} (h : ∀ a, R' a → R a) : Mv g (g.at E σ ss) R R' H H := ⟨fun a o n q _ => ⟨q, fun w => n (h a w)⟩, fun _ _ b => b⟩
theorem mv_ta {R R' : Addr → Prop} (h : ∀ a, R' a → R a) : Mv (g.at E σ ss) g R R' H H := ⟨fun a o n q _ => ⟨q, fun w => n (h a w)⟩, fun _ _ b => b⟩
theorem SG.at {R : Addr → Prop} (s : SG P g R H) : SG P (g.at E σ ss) R H := ⟨s.tabs, s.inv, s.trk⟩
theorem SG.off {R : Addr → Prop} (s : SG P (g.at E σ ss) R H) : SG P g R H := ⟨s.tabs, s.inv, s.trk⟩
/-- the contract's wish, at a call -/
theorem spD_at {gp : B → Prop} {n : Nat} {c : Ctr} {vs : List V} {ds : List D} {Q : D → Prop} {Qx : Err → SS → Prop} {K : VK} {XE : XK} (hgp : gp g.toB) (S : Stt P g E H0 ss σ H) (dl : DenL P g (Rg g E σ ss) H vs ds) (hl : ds.length = n) (hc : c ds Q (fun e => Qx e ss))
    (hk : ∀ v H', EPD P g E H0 ss σ H Q v H' → K v H') (hx : ∀ cls dd H' e, Stt P g E H0 ss σ H' → ErrD P g (Rg g E σ ss) H' cls dd e → Qx e ss → XE cls dd H') : spD P gp n c vs H K XE := by
  refine ⟨g.at E σ ss, ds, Q, _, hgp, by rw [dl.length]; exact hl, S.sg.at, DenL.mv (mv_at fun a r => r) dl, hc, fun v H' d e sg nd q => ?_, fun cls dd H' er e sg ne q => ?_⟩
  · exact hk v H' ⟨d, S.ext e sg.off, e, Den.mv (mv_ta fun a r => r) nd, q⟩
  · exact hx cls dd H' er (S.ext e sg.off) (ErrD.mv (mv_ta fun a r => r) ne) q
theorem d_call {k : Nat} {f : Addr} {fd : FuncData} {ps : List Str} {gp : B → Prop} {n : Nat} {c : Ctr} {x : Str} {p : Pos} (F : FnG X.prog X.w X.K X.mg X.base (L2.CX X.prog X.w) k f fd ps (spD P gp n c)) (hr : Room k X.A) (hgd : X.A.guards = some []) (hg : Gl X x) (hm : X.mg x = some (.ref f)) (hk : PySem.W.keepIn X.K (.ref f) = true) (hb : Binds X.K fd ps []) (hgp : gp g.toB)
    (ha : DA X P g (e :: es) tl) (hdb : (x == ("__debug__" : Str)) = false := by decide) (he : starEach (e :: es) X.env = (false, eval e X.env) :: starEach es X.env := by rfl) (hpl : (backTo pos (starEach es X.env)).any (·.1) = false := by rfl) :
    DE X P g (.Call (.Name x p) (e :: es) [] pos) (vCall n c tl) := by
  refine ⟨fun pins s σ H E H0 ss Q Qx I S T h => ?_⟩
  refine wpAny_Call_Name_kw (ld_glob I hg hm ?_ hdb)
  obtain ⟨XE, hXE, hx⟩ : ∃ XE : XK, (∀ cls dd H' e, Stt P g E H0 ss σ H' → ErrD P g (Rg g E σ ss) H' cls dd e → Qx e ss → XE cls dd H') ∧ PassesAt (L2.CX X.prog X.w) X σ XE := by
    rcases T with T | T
    · refine ⟨fun _ _ _ => False, fun cls dd H' e _ _ z => (T _ _ z).elim, fun pins H s e s' I c => ?_⟩
      obtain ⟨_, _, _, _, _, _, _, _, _, _, _, _, z⟩ := c
      exact z.elim
    · exact ⟨_, fun cls dd H' e S n z => ⟨e, ss, S, n, z⟩, passAt T σ⟩
  refine PySem.W.callWith_K (h₀ := X.base) I.ok.mod.kin hk (thn (ha.run pos pins s σ H E H0 ss _ Qx I S T h) fun us s1 ⟨vs, H1, I1, r, ds, S1, e1, n1, q1, q2⟩ => ⟨I1.kIn, ?_⟩) he hpl
  exact run_fnG F hr hgd hb hx I1 r (spD_at hgp S1 n1 q1 q2 (fun v H' z => EPD.back e1 z) hXE)
end
end DL

set_option maxRecDepth 100000
set_option maxHeartbeats 4000000
namespace DLX
open PySem PySem.W PySem.Calls PyProof.Rows

section
variable {prog : Program} {w : World} {A : Around} {E : Value → Shared → Prop} {h : Heap} {g : Array GenState} {d : Drawn} {t : Nat} {os : OsState}
/-- the wrapper called: ValueError.__init__ on the object -/
theorem call_mw {u e t0 C : Addr} {K : Frag} {rest : List Value} {nm q : Str} {N : Addr} {bs bm : List Value} {hdct : Bool} {sn : List Str} {sub : List Value} {ab : Bool} {col : Option Bool} {dd : Option Addr} {k0 k1 k2 k3 k5 : Option Value} {Q : Value → Shared → Prop}
    (hC : h.get? C = some (excClassObj nm q C N bs bm hdct sn sub ab col dd k0 k1 k2 k3 k5 "ValueError.__new__")) (he : h.get? e = some (PySem.HandSPX.excO C t0)) (hu : h.get? u = some (kxs_mw "ValueError.__init__" e)) (hz : rest.length ≤ sizeLine)
    (fin : ∀ h' t1, (∀ b o, b ≠ e → h.get? b = some o → h'.get? b = some o) → h'.get? e = some (PySem.HandSPX.excO C t1) → Q .none ⟨h', g, d, t, os⟩) :
    wpAny (model prog w) A (call (.ref u) rest) Q E ⟨h, g, d, t, os⟩ := by
  refine wpAny_call (codeAny_of_tree ?_)
  show wpAny _ A.in1 (callAny (.ref u) ⟨rest, []⟩) _ _ _
  simp only [callAny]
  refine wpAny_bind (wpAny_load hu ?_)
  simp only [kxs_mw, show (Value.type "method-wrapper" == Value.type "method" || Value.type "method-wrapper" == Value.type "builtin_function_or_method" || Value.type "method-wrapper" == Value.type "method-wrapper") = true by decide, if_true]
  refine KFB.if_so (by decide) ?_
  refine wpAny_bind (check_bound_init F.excBase_ValueError.toExcCallFacts hC he rfl ?_)
  refine wpAny_bind (wpAny_pure (wpAny_pure ?_))
  refine ⟨plainId_quiet F.excBase_ValueError.init.plain _, codeAny_builtin F.excBase_ValueError.initEntry ?_⟩
  exact exc_init_tree (cls := .ref C) (t0 := t0) (dv := none) (c2 := .none) (c3 := .none) (b4 := .bool false) he hz fun h' k e' t' => fin h' _ k e'

/-- the words of an __init__ that says super().__init__('..'); self.f = p -/
structure Words (K : Frag) (prog : Program) (C f : Addr) (qual attr pn : Str) (body : List Stmt) (scope : Scope) : Prop where
  bd : ∃ p0 p1 p2 txt j p3 p4 p5 q1 q2 q3 q4, body = [.Expr (.Call (.Attribute (.Call (.Name "super" p0) [] [] p1) "__init__" p2) [.Constant (.str txt) j p3] [] p4) p5, .Assign [.Attribute (.Name "self" q1) attr q2] (.Name pn q3) q4] ∧
    (∃ pl : Sem Bool, ∀ env, eval (.Call (.Attribute (.Call (.Name "super" p0) [] [] p1) "__init__" p2) [.Constant (.str txt) j p3] [] p4) env = (do
      let ov ← attributeBase (.Call (.Name "super" p0) [] [] p1) "__init__" env (eval (.Call (.Name "super" p0) [] [] p1) env)
      standAt p2.atName
      let (f, first) ← holding [ov] (getMethod ov "__init__" pl)
      callWith p4 f first (backTo p4 (starEach [.Constant (.str txt) j p3] env)) [])) ∧
    (∀ env, swapsWith (.Call (.Attribute (.Call (.Name "super" p0) [] [] p1) "__init__" p2) [.Constant (.str txt) j p3] [] p4) none p5.line env = pure false) ∧
    (∀ env, swapsWith (.Name pn q3) (some (.Attribute (.Name "self" q1) attr q2)) q4.line env = pure false)
  fn : ∃ oc od osl name params dV kV doc pm an cda ct cc, K.lookup f = some ⟨oc, od, .func (ksFn name qual params body scope dV kV doc pm an (.ref cda) ct cc), osl⟩ ∧ codeIn K (.ref cda) qual = true ∧ (∃ ar, (params.posonlyargs ++ params.args).head? = some ar ∧ ar.arg = "self") ∧
    (∃ ccl cdd vs ccs file tf, K.lookup cda = some ⟨ccl, cdd, .fields vs, ccs⟩ ∧ vs[2]? = some (.str file tf) ∧ ((prog.main.file : Str) == file) = true) ∧ (∃ cl cld csl, K.lookup cc = some ⟨cl, cld, .cell (some (.ref C)), csl⟩)
  top : (prog.main.scope.names.lookup ("super" : Str)).isSome = false
  sup : nsIn K mainGlobals "super" = some none
  opq : nsIn K cStatics "thirdparty.any" = some none
  ini : ks_superIn K C C "__init__" = some (some (.builtin "ValueError.__init__"))
  subC : mroIn K C (.ref C) = some true
  subB : subIn K (.ref C) (.type "ValueError") = some true
  no : findIn K (.ref C) attr = some none
  s1 : scope.names.lookup ("super" : Str) = some .globalImplicit
  s2 : scope.names.lookup ("__class__" : Str) = some .free
  s3 : scope.names.lookup ("self" : Str) = some .local
  s4 : scope.names.lookup pn = some .local
  s5 : scope.kind = .function
  s6 : scope.isCoroutine = false
  s7 : scope.isGenerator = false
  s8 : ∀ x ∈ scope.names, x.2 ≠ .cell
  s9 : pn ≠ ("self" : Str)
  s10 : (pn == ("__debug__" : Str)) = false

theorem inter_no (env : Env) (h : env.scope.kind = .function) : interactive env = false := by
  unfold interactive
  rw [h]
  rfl
theorem init_run {K : Frag} {mg mb : Str → Option Value} {C f e t0 : Addr} {qual attr pn : Str} {body : List Stmt} {scope : Scope} {u : Value} {args : Args} {fd : FuncData} {R : Result → Shared → Prop}
    (X : K.In h) (lim : h.NoLimit) (G : h.Ns mainGlobals mg) (B : h.Ns builtinsNs mb) (hmb : mb "super" = some (.type "super")) (T : L2.OexC K C) (W : Words K prog C f qual attr pn body scope)
    (hfd : ∃ oc od osl, K.lookup f = some ⟨oc, od, .func fd, osl⟩) (hroom : A.depth < recursionLimit) (hbind : BindsTo ⟨h, g, d, t, os⟩ fd args [(("self" : Str), Value.ref e), (pn, u)]) (he : h.get? e = some (PySem.HandSPX.excO C t0)) (hKe : K.lookup e = none)
    (hq : ∀ h' tk dx t1, (∀ b o, b ≠ e → h.get? b = some o → h'.get? b = some o) → h.objs.size ≤ dx → dx ≠ e → h'.get? e = some ({ cls := .ref C, dict := some dx, data := .fields #[.ref t1, .none, .none, .none, .bool false, .none] } : Obj) → h'.Ns1 dx (fun y => if y = attr then some u else none) → R (.ok (.ret .none)) ⟨h', g, d, tk, os⟩) :
    codeAny (model prog w) A (.call (.ref f) args) R ⟨h, g, d, t, os⟩ := by
  obtain ⟨p0, p1, p2, txt, j, p3, p4, p5, q1, q2, q3, q4, eb, ⟨pl, hev⟩, hsw1, hsw2⟩ := W.bd
  obtain ⟨oc, od, osl, name, params, dV, kV, doc, pm, an, cda, ct, cc, ho, hcd, ⟨ar, hp, har⟩, ⟨ccl, cdd, vs, ccs, file, tf, hcode, hvs, hfile⟩, ⟨cl, cld, csl, hcell⟩⟩ := W.fn
  obtain ⟨oc', od', osl', hfd⟩ := hfd
  rw [ho] at hfd
  cases hfd
  subst eb
  obtain ⟨nm, q, N, bs, bm, sn, sub, ab, col, dd, k0, k1, k2, k3, k5, hC, hbm⟩ := T.cls
  have hcl : clsIn K C = some { name := nm, bases := bs, mro := .ref C :: bm, ns := N, qualname := q, hasDict := true, slotNames := sn, subclasses := sub, abstract := ab, collection := col, hasDel := false } := by unfold clsIn; rw [hC] <;> rfl
  refine ks_codeAny_call_defAt (fd := ksFn name qual params _ scope dV kV doc pm an (.ref cda) ct cc) (binds := [(("self" : Str), Value.ref e), (pn, u)]) hroom (X _ _ ho) rfl lim (codeRec_of X hcd) rfl hbind W.s8 (fun y hy => ?_) (fun h₁ hns hk₁ => ?_) W.s6 W.s7 W.s5
  · rcases List.mem_cons.mp hy with rfl | hy
    · exact W.s3
    · rcases List.mem_cons.mp hy with rfl | hy
      · exact W.s4
      · cases hy
  have X1 : K.In h₁ := X.keeps hk₁
  have hL : ∀ b o, h.get? b = some o → b ≠ h.objs.size := fun b o z => Nat.ne_of_lt (Heap.lt_size z)
  have hself : (fun x => List.lookup x ([(("self" : Str), Value.ref e), (pn, u)].reverse)) "self" = some (.ref e) := by
    show List.lookup ("self" : Str) [(pn, u), (("self" : Str), Value.ref e)] = _
    rw [List.lookup_cons, show (("self" : Str) == pn) = false from by simpa using fun z => W.s9 z.symm]
    rfl
  have hpn : (fun x => List.lookup x ([(("self" : Str), Value.ref e), (pn, u)].reverse)) pn = some u := by
    show List.lookup pn [(pn, u), (("self" : Str), Value.ref e)] = _
    rw [List.lookup_cons, beq_self_eq_true]
  generalize (fun x => List.lookup x ([(("self" : Str), Value.ref e), (pn, u)].reverse)) = m at hns hself hpn
  have hD1 := X1 _ _ hC
  refine ks_wpAt_execs_cons (ks_wpAt_Expr_any (ks_wpAt_MethodCall (ks_wpAt_super_base (env := ksEnv qual scope h.objs.size f (.ref cda) cc) W.s1 W.s2 (by decide) rfl (X1 _ _ ho) rfl hp rfl (X1 _ _ hcode) rfl hvs hfile W.top ?_) (pl := pl) (hev _)) (hs := hsw1 _) (hi := inter_no _ W.s5))
  rw [har]
  refine ks_loadName_global W.s5 W.s1 (loadGlobal_builtin (env := ksEnv qual scope h.objs.size f (.ref cda) cc) (G.keeps hk₁) (mg_none_of X G W.sup) (B.keeps hk₁) hmb ⟨rfl, ?_⟩)
  refine wpAny_loadName_free W.s5 W.s2 rfl ⟨_, X1 _ _ hcell, rfl⟩ ?_
  refine wpAny_loadName_local W.s5 W.s3 hns hself ?_
  refine ks_wpAny_isType_cls hD1 rfl ⟨rfl, ?_⟩
  refine ks_wpAny_call_super hD1 rfl (hk₁ _ _ he) rfl (fun c z => by cases z) (looks_mroIn X1 W.subC) (fun h2 e2 kp2 => ?_)
  have X2 : K.In h2 := X1.keeps kp2
  have I2 : InstAt h2 e (PySem.HandSPX.excO C t0) C none := ⟨kp2 _ _ (hk₁ _ _ he), rfl, rfl, trivial⟩
  have hm := W.ini
  unfold ks_superIn at hm
  rw [hcl] at hm
  refine kxs_getMethod (K := K) kxs_ValueError e2 (looks_opaque X2 W.opq) (l₀ := .ref C :: bm) (fun A Q E s k q => wpAny_bind ((looks_clsIn X2 hcl) A _ E s k (wpAny_pure q))) rfl X2 hm (I2.type.andThen (looks_subIn X2 W.subB)) (ks_ne X2 I2 hcl) (by decide) ?_
  refine kxs_callWith (i := "ValueError.__init__") (x := e) rfl (evalArgs_plain (spliced_cons (Constant_str (k := j) (pos := p3) (spliced_nil ⟨Heap.get?_push_at rfl rfl, ?_⟩))))
  have kp3 : ∀ b o, h2.get? b = some o → (h2.push (kxs_mw "ValueError.__init__" e)).get? b = some o := fun b o z => Heap.get?_push_of_some _ z
  refine call_mw (K := K) (t0 := t0) (kp3 _ _ (X2 _ _ hC)) (kp3 _ _ (kp2 _ _ (hk₁ _ _ he))) (Heap.get?_push_at rfl rfl) (show 1 ≤ sizeLine from by decide) (fun h4 t1 k4 e4 => ?_)
  -- the second row
  have kAll : ∀ b o, b ≠ e → h₁.get? b = some o → h4.get? b = some o := fun b o hb z => k4 b o hb (kp3 _ _ (kp2 _ _ z))
  have hLe : h.objs.size ≠ e := fun z => hL _ _ he z.symm
  have hns4 : h4.Ns h.objs.size m := hns.at fun o z => kAll _ o hLe z
  have X4 : K.In h4 := fun b o z => kAll b o (fun y => by
    rw [y, hKe] at z
    cases z) (X1 b o z)
  have I4 : InstAt h4 e (PySem.HandSPX.excO C t1) C none := ⟨e4, rfl, rfl, trivial⟩
  have hsz : h.objs.size < h4.objs.size := by
    obtain ⟨o, _, _, z, _⟩ := hns4
    exact Heap.lt_size z
  refine wpAt_of_wpAny (wpAny_execs_cons (plainObj_wpAny_Assign_Attribute (wpAny_Name (wpAny_loadName_local W.s5 W.s4 hns4 hpn (wpAny_Name (wpAny_loadName_local W.s5 W.s3 hns4 hself ?_))) W.s10) (hsw2 _)))
  refine set_plain X4 I4 T.sa ?_
  refine PySem.HandSPX.exc_osa X4 e4 hcl (show PySem.HandSPX.refsVE (.ref C :: bm) = true from hbm) rfl W.no (fun h' tk' dx k dn dne hx hn => ?_)
  refine wpAny_execs_nil ?_
  exact hq h' tk' dx t1 (fun b o hb z => k b o hb (kAll b o hb (hk₁ b o z))) (Nat.le_trans (Nat.le_of_lt hsz) dn) dne hx hn
end
end DLX
namespace DLX
open PySem PySem.Spec PyProof.Rows L2
/-- what such an __init__ does, told of what is tracked -/
def spInit (C : Addr) (attr : Str) : Sp := fun vs H Q E => ∃ (a : Addr) (v : V), vs = [.ref a, v] ∧ H a = some (exo a C none) ∧ ∀ dx, H dx = none → dx ≠ a → Q .non (upd (upd H dx (exd dx [(attr, v)])) a (exo a C (some dx)))
theorem init_ok {P : Program} {w : World} {K : PySem.W.Frag} {mg : Str → Option Value} {base : Heap} {CX : CXT} {C f : Addr} {qual attr pn : Str} {body : List Stmt} {scope : Scope} {fd : FuncData} (T : OexC K C) (W : Words K P C f qual attr pn body scope)
    (hfd : ∃ oc od osl, K.lookup f = some ⟨oc, od, .func fd, osl⟩) : FnOk P w K mg base CX 0 f fd ["self", pn] (spInit C attr) := by
  refine ⟨fun vs H Q E ⟨a, v, e, _⟩ => by rw [e]; rfl, fun A outer s H args us vs Q E hr e0 hb r hsp => ?_⟩
  obtain ⟨a, v, ev, ha, hq⟩ := hsp
  subst ev
  obtain ⟨u1, u, rfl, r1, r2⟩ := vals2 r
  cases (show u1 = Value.ref a from r1)
  have kp : ∀ b o, base.get? b = some o → s.heap.get? b = some o := fun b o e => (e0.bs b o e).1
  obtain ⟨mb, hmb, hboot⟩ := e0.mod.blt
  obtain ⟨t0, ho⟩ := exo_at e0.hok ha
  have hKe : K.lookup a = none := by
    cases q : K.lookup a with
    | none => rfl
    | some o =>
      have := (e0.bs a o (e0.mod.kin a o q)).2
      rw [ha] at this
      cases this
  obtain ⟨hp, g, d, t, os⟩ := s
  have hb' : BindsTo ⟨hp, g, d, t, os⟩ fd args [(("self" : Str), Value.ref a), (pn, u)] := hb
  refine init_run (e0.mod.kin.keeps kp) (e0.mod.nolimit.keeps kp) (e0.mod.glob.keeps kp) (hmb.keeps kp) ((hboot "super" (by decide)).trans rfl) T W hfd (by have := hr.depth; exact this) hb' ho hKe fun h' tk dx t1 k dn dne hx hn => ?_
  have hnd : H dx = none := e0.hok.fresh dn
  have nd : ∀ {b : Addr} {o : Obj}, hp.get? b = some o → b ≠ dx := fun {b o} q => Nat.ne_of_lt (Nat.lt_of_lt_of_le (Heap.lt_size q) dn)
  have na : ∀ {b : Addr}, H b = none → b ≠ a := fun {b} n z => by
    rw [z, ha] at n
    cases n
  refine ⟨.non, _, rfl, e0.bare, {
    keep := fun b o q n _ _ => k b o (na n) q
    slot := fun b o q n _ _ => ⟨o.slots, k b o (na n) q⟩
    free := fun b o q n _ => by rw [upd_ne (na n), upd_ne (nd q)]; exact n
    there := fun b o q _ => by
      by_cases hb : b = a
      · exact ⟨_, by rw [hb]; exact hx⟩
      · exact ⟨o, k b o hb q⟩
    tups := fun b xs q => by rw [upd_ne (at_ne ha q exo_tup), upd_ne (ne_of_none q hnd)]; exact q
    frzs := fun b o v q => by rw [upd_ne (at_ne ha q exo_frz), upd_ne (ne_of_none q hnd)]; exact q
    tbls := fun b ps q => ⟨#[], by rw [upd_ne (at_ne ha q exo_tbl), upd_ne (ne_of_none q hnd), q]; simp⟩ }, fun b o q => ?_, rfl, hq dx hnd dne⟩
  by_cases hb : b = a
  · subst hb
    rw [upd_same] at q
    cases q
    exact exo_ok hx
  · rw [upd_ne hb] at q
    by_cases hd : b = dx
    · subst hd
      rw [upd_same] at q
      cases q
      exact exd_ok hn (relO_put (fs := []) r2 fun g => True.intro)
    · rw [upd_ne hd] at q
      exact (e0.hok b o q).stay (fun c v hc z => k c v (by
          rcases hc with hc | hc
          · rw [hc]
            exact hb
          · exact at_ne ha hc exo_own) z)
        (fun c hc => by rw [upd_ne (at_ne ha hc exo_own), upd_ne (ne_of_none hc hnd)]; exact hc) (fun c xs hc => by rw [upd_ne (at_ne ha hc exo_tup), upd_ne (ne_of_none hc hnd)]; exact hc)
end DLX

set_option maxRecDepth 100000
set_option maxHeartbeats 4000000
namespace DLX
open PySem PySem.HandSPX
section
variable {M : Model} {A : Around} {E : Value → Shared → Prop} {h : Heap} {g : Array GenState} {d : Drawn} {t : Nat} {os : OsState}
variable {nm q : Str} {C N : Addr} {bs bm bmB : List Value} {hdct : Bool} {sn : List Str} {sub : List Value} {ab : Bool} {col : Option Bool} {dd : Option Addr} {k0 k1 k2 k3 k5 : Option Value} {B newId initId : String}
theorem check_new_kw (F : ExcBaseFacts B newId initId bmB) (hT : ∀ X : String, bm.contains (.type X) = bmB.contains (.type X)) {rest : List Value} {kw : List (Str × Value)} {Q : Unit → Shared → Prop}
    (hC : h.get? C = some (excClassObj nm q C N bs bm hdct sn sub ab col dd k0 k1 k2 k3 k5 newId)) (hq : Q () ⟨h, g, d, t, os⟩) : wpAny M A (checkBuiltinCall newId ⟨.ref C :: rest, kw⟩) Q E ⟨h, g, d, t, os⟩ := by
  have hcont : (Value.ref C :: bm).contains (.type B) = true := by rw [List.contains_cons, hT, F.hasB, Bool.or_true]
  have hstar := F.noStar
  simp only [checkBuiltinCall, F.newKind, F.newSplit, F.newRow]
  repeat (first | refine wpAny_loadPart_at hC ?_ | (refine wpAny_isSubtype_exc hC ?_; rw [hcont]) | refine wpAny_staticBase_exc hC ?_ | refine wpAny_madeBy_exc hC ?_ | simp only [bne_self_eq_false, Bool.false_eq_true, if_false] | wp_step)
  exact hq
end
section
variable {prog : Program} {w : World} {A : Around} {E : Value → Shared → Prop} {R : Result → Shared → Prop} {h : Heap} {g : Array GenState} {d : Drawn} {t : Nat} {os : OsState}
variable {nm q : Str} {C N : Addr} {bs bm bmB : List Value} {hdct : Bool} {sn : List Str} {sub : List Value} {ab : Bool} {col : Option Bool} {dd : Option Addr} {k0 k1 k2 k3 k5 : Option Value} {B newId initId : String}
theorem new_kw (F : ExcBaseFacts B newId initId bmB) (hT : ∀ X : String, bm.contains (.type X) = bmB.contains (.type X)) {rest : List Value} {kw : List (Str × Value)}
    (hC : h.get? C = some (excClassObj nm q C N bs bm hdct sn sub ab col dd k0 k1 k2 k3 k5 newId))
    (hq : R (.ok (.ret (.ref (h.objs.size + 1)))) ⟨(h.push { cls := .type "tuple", data := .seq rest.toArray }).push
      { cls := .ref C, data := .fields #[.ref h.objs.size, .none, .none, .none, .bool false, .none] }, g, d, t, os⟩) (hrest : rest.length ≤ sizeLine) :
    codeAny (model prog w) A (.builtin newId ⟨.ref C :: rest, kw⟩) R ⟨h, g, d, t, os⟩ := by
  have hends := F.ends
  have hcB : (Value.ref C :: bm).contains (.type B) = true := by rw [List.contains_cons, hT, F.hasB, Bool.or_true]
  have hcA : (Value.ref C :: bm).contains (.type "AttributeError") = false := by rw [List.contains_cons, hT, F.noAttr]; rfl
  have hcN : (Value.ref C :: bm).contains (.type "NameError") = false := by rw [List.contains_cons, hT, F.noName]; rfl
  refine codeAny_builtinAt F.entry ?_
  unfold Builtin.«BaseException.__new__»
  refine wpAt_bind ?_
  show wpAt _ _ _ (stack >>= _) _ _ _
  refine wpAt_bind (wpAt_stack fun p below => wpAt_of_wpAny ?_)
  wp_walk
  refine wpAt_of_wpAny ?_
  rw [F.owner]
  repeat (first | with_reducible refine wpAny_madeHere_exc F.canon hC ?_ | with_reducible refine wpAny_loadPart_at hC ?_ | (with_reducible refine wpAny_isSubtype_exc hC ?_; first | rw [hcB] | rw [hcA] | rw [hcN]) | wp_step)
  show R _ _
  rw [Heap.size_push]
  exact hq
theorem type_call_kw (F : ExcBaseFacts B newId initId bmB) (hT : ∀ X : String, bm.contains (.type X) = bmB.contains (.type X)) {rest : List Value} {kw : List (Str × Value)} {fI : Addr} {Q : Fin → Shared → Prop}
    (hC : h.get? C = some (excClassObj nm q C N bs bm hdct sn sub ab col dd k0 k1 k2 k3 k5 newId))
    (hi : W.Looks (model prog w) h (typeLookup (.ref C) "__init__") (some (.ref fI))) (hb : ∀ self, W.Looks (model prog w) h (bindSpecial (.ref fI) self) (.ref fI, [self])) (hrest : rest.length ≤ sizeLine)
    (hq : codeAny (model prog w) A (.call (.ref fI) ⟨.ref (h.objs.size + 1) :: rest, kw⟩)
      (fun r s' => match r with | .ok (.ret v) => v = .none ∧ Q (.done (.ret (.ref (h.objs.size + 1)))) s' | .ok _ => False | .error e => E e s')
      ⟨(h.push (W.kdv_tup rest)).push (excO C h.objs.size), g, d, t, os⟩) :
    wpAny (model prog w) A (Builtin.«type.__call__» ⟨.ref C :: rest, kw⟩) Q E ⟨h, g, d, t, os⟩ := by
  repeat (first | with_reducible refine wpAny_loadPart_at hC ?_ | with_reducible refine wpAny_madeBy_exc hC ?_ | wp_step)
  refine codeAny_call_builtin_code (Code.quiet_builtin _ F.quiet) (check_new_kw F hT hC ?_)
  refine new_kw F hT hC ?_ hrest
  show wpAny _ _ _ _ _ _
  have k : ∀ b o, h.get? b = some o → ((h.push (W.kdv_tup rest)).push (excO C h.objs.size)).get? b = some o := fun b o e => Heap.get?_push_of_some _ (Heap.get?_push_of_some _ e)
  have hC₁ := k _ _ hC
  have hget : ((h.push (W.kdv_tup rest)).push (excO C h.objs.size)).get? (h.objs.size + 1) = some (excO C h.objs.size) := by heap_get
  have hcC : (Value.ref C :: bm).contains (.ref C) = true := by simp
  have i1 := hi.keeps k
  have b1 := (hb (.ref (h.objs.size + 1))).keeps k
  unfold isInstance
  repeat (first | with_reducible refine wpAny_loadPart_at hget ?_ | (with_reducible refine wpAny_isSubtype_exc hC₁ ?_; rw [hcC]) | wp_step)
  show wpAny _ _ (typeLookup (.ref C) _) _ _ _
  refine i1.at ?_
  refine wpAny_holding (wpAny_bind (b1.at ?_))
  refine wpAny_bind (wpAny_call (codeAny_mono hq fun r s' z => ?_))
  rcases r with e | (v | _ | _ | _) <;> first | exact z | exact z.elim | skip
  obtain ⟨rfl, z⟩ := z
  first
    | exact wpAny_pure (wpAny_pure z)
    | (wp_walk; exact z)
theorem check_type_kw {M : Model} {rest : List Value} {kw : List (Str × Value)} {Q : Unit → Shared → Prop} (hC : h.get? C = some (excClassObj nm q C N bs bm hdct sn sub ab col dd k0 k1 k2 k3 k5 newId))
    (hq : Q () ⟨h, g, d, t, os⟩) : wpAny M A (checkBuiltinCall "type.__call__" ⟨.ref C :: rest, kw⟩) Q E ⟨h, g, d, t, os⟩ := by
  have f3 := tc_sub
  have hT : (⟨h, g, d, t, os⟩ : Shared).TypeIs (.ref C) "type" := ⟨_, hC, rfl⟩
  simp only [checkBuiltinCall, tc_kind, tc_split]
  repeat (any_goals (first | assumption | with_reducible refine wpAny_loadPart_at hC ?_ | with_reducible refine wpAny_onRaise ?_ | with_reducible refine wpAny_map ?_ | wp_step))
theorem call_kw (F : ExcBaseFacts B newId initId bmB) (hT : ∀ X : String, bm.contains (.type X) = bmB.contains (.type X)) {rest : List Value} {kw : List (Str × Value)} {fI : Addr}
    (hC : h.get? C = some (excClassObj nm q C N bs bm hdct sn sub ab col dd k0 k1 k2 k3 k5 newId))
    (hi : W.Looks (model prog w) h (typeLookup (.ref C) "__init__") (some (.ref fI))) (hb : ∀ self, W.Looks (model prog w) h (bindSpecial (.ref fI) self) (.ref fI, [self])) (hrest : rest.length ≤ sizeLine)
    (hq : codeAny (model prog w) (A.under (.builtin "type.__call__" ⟨.ref C :: rest, kw⟩)) (.call (.ref fI) ⟨.ref (h.objs.size + 1) :: rest, kw⟩) (W.InitBack (h.objs.size + 1) R)
      ⟨(h.push (W.kdv_tup rest)).push (excO C h.objs.size), g, d, t, os⟩) :
    codeAny (model prog w) A (.call (.ref C) ⟨rest, kw⟩) R ⟨h, g, d, t, os⟩ := by
  have f1 := tc_lookup
  have f2 := tc_bind (.ref C)
  have hTy : (⟨h, g, d, t, os⟩ : Shared).TypeIs (.ref C) "type" := ⟨_, hC, rfl⟩
  refine codeAny_of_tree ?_
  show wpAny _ _ (callAny (.ref C) _) _ _ _
  repeat (any_goals (first | assumption | with_reducible refine wpAny_loadPart_at hC ?_ | wp_step))
  refine ⟨rfl, ?_⟩
  refine codeAny_call_builtin_at (Code.quiet_builtin _ (by decide +kernel)) entry_typeCall (check_type_kw hC (type_call_kw F hT hC hi hb hrest ?_))
  refine codeAny_mono hq fun r s' z => ?_
  rcases r with e | (v | _ | _ | _) <;> exact z
end
end DLX

set_option maxRecDepth 100000
set_option maxHeartbeats 4000000
namespace DL
open PySem PySem.Spec PyProof.Rows L2 LamX NdefX DLX

section
variable {X : Cx} {pins : List (Addr × Obj)} {σ : St} {H1 : Hp}
/-- C(e): the exception made, as a value -/
theorem oex_made {hp hp2 h2 : Heap} {g1 g2 : Array GenState} {d1 d2 : Drawn} {t1 t2 : Nat} {os1 os2 : OsState} {a C dx : Addr} {fs : List (Str × V)} (I1 : Inv X pins σ H1 ⟨hp, g1, d1, t1, os1⟩)
    (ha : hp.objs.size ≤ a) (k : ∀ b o, hp.get? b = some o → hp2.get? b = some o) (hda : dx ≠ a) (hd1 : H1 dx = none) (un : Un (frs X.stack) [] (upd H1 a (exo a C none)) (upd (upd (upd H1 a (exo a C none)) dx (exd dx fs)) a (exo a C (some dx))) hp2 h2)
    (hok : HOk X.prog X.w (upd (upd (upd H1 a (exo a C none)) dx (exd dx fs)) a (exo a C (some dx))) h2) (ho : os2 = os1) (hb : AllBare g2) :
    Inv X pins σ (upd (upd H1 dx (.xd fs)) a (ExvO a C (some dx))) ⟨h2, g2, d2, t2, os2⟩ := by
  have hn : H1 a = none := I1.hok.fresh ha
  obtain ⟨H2, eH2⟩ : ∃ H2, H2 = upd (upd (upd H1 a (exo a C none)) dx (exd dx fs)) a (exo a C (some dx)) := ⟨_, rfl⟩
  rw [← eH2] at un hok
  have ea : H2 a = some (exo a C (some dx)) := by rw [eH2, upd_same]
  have ed : H2 dx = some (exd dx fs) := by rw [eH2, upd_ne hda, upd_same]
  have e0 : ∀ b, b ≠ a → b ≠ dx → H2 b = H1 b := fun b h1 h2 => by rw [eH2, upd_ne h1, upd_ne h2, upd_ne h1]
  obtain ⟨t0, hoe⟩ := exo_at hok ea
  obtain ⟨mA, hns, rel⟩ := exd_at hok ed
  have nha : ∀ {b : Addr} {o : Obj}, hp.get? b = some o → b ≠ a := fun {b o} z => Nat.ne_of_lt (Nat.lt_of_lt_of_le (Heap.lt_size z) ha)
  have up : ∀ {b : Addr}, b ≠ a → H1 b = none → upd H1 a (exo a C none) b = none := fun {b} hb n => by rw [upd_ne hb]; exact n
  have nd : ∀ {b : Addr} {o : Obj}, hp.get? b = some o → H1 b = none → b ≠ dx := fun {b o} z n e => by
    have y := un.free b o (k b o z) (up (nha z) n) (by simp)
    rw [e, ed] at y
    cases y
  have U : Un (frs X.stack) [] H1 (upd (upd H1 dx (.xd fs)) a (ExvO a C (some dx))) hp h2 := {
    keep := fun b o z n hf hx => un.keep b o (k b o z) (up (nha z) n) hf hx
    slot := fun b o z n hf hx => un.slot b o (k b o z) (up (nha z) n) hf hx
    free := fun b o z n hx => by
      rw [upd_ne (nha z), upd_ne (nd z n)]
      exact n
    there := fun b o z hx => un.there b o (k b o z) hx
    tups := fun b xs z => by
      rw [upd_ne (ne_of_none z hn), upd_ne (ne_of_none z hd1)]
      exact z
    frzs := fun b o v z => by
      rw [upd_ne (ne_of_none z hn), upd_ne (ne_of_none z hd1)]
      exact z
    tbls := fun b ps z => by
      obtain ⟨m, e⟩ := un.tbls b ps (by rw [upd_ne (ne_of_none z hn)]; exact z)
      refine ⟨m, ?_⟩
      rw [upd_ne (ne_of_none z hn), upd_ne (ne_of_none z hd1)]
      rw [e0 b (ne_of_none z hn) (ne_of_none z hd1)] at e
      exact e }
  have hok3 : HOk X.prog X.w (upd (upd H1 dx (.xd fs)) a (ExvO a C (some dx))) h2 := fun b o z => by
    by_cases hba : b = a
    · subst hba
      rw [upd_same] at z
      cases z
      exact ⟨⟨_, _, hoe, rfl, rfl, rfl⟩, ⟨_, hoe⟩, fun h1 h2 ⟨oe, vs, q1, q2⟩ kk => ⟨oe, vs, kk _ q1, q2⟩⟩
    · rw [upd_ne hba] at z
      by_cases hbd : b = dx
      · subst hbd
        rw [upd_same] at z
        cases z
        exact ⟨mA, hns, rel⟩
      · rw [upd_ne hbd] at z
        have z2 : H2 b = some o := by rw [e0 b hba hbd]; exact z
        have nea : ∀ {c : Addr} {u : HO}, H2 c = some u → exo a C (some dx) ≠ u → c ≠ a := fun {c u} hc n => at_ne ea hc n
        exact (hok b o z2).stay (fun c v hc y => y) (fun c hc => by
            have h1 := at_ne ea hc exo_own
            have h2 := at_ne ed hc exd_own
            rw [upd_ne h1, upd_ne h2, ← e0 c h1 h2]; exact hc)
          (fun c xs hc => by
            have h1 := at_ne ea hc exo_tup
            have h2 := at_ne ed hc exd_tup
            rw [upd_ne h1, upd_ne h2, ← e0 c h1 h2]; exact hc)
  exact I1.call' (ch := []) ho U hok3 hb (fun b z => absurd z (by simp))
/-- the value's reading -/
def tMkV (C : Addr) (attr : Str) (te : TE) : TE := fun σ H Q => te σ H fun v H1 => ∀ a dx, H1 a = none → H1 dx = none → dx ≠ a → Q (.ref a) (upd (upd H1 dx (.xd [(attr, v)])) a (ExvO a C (some dx)))
/-- how such an __init__ binds -/
structure BX (fd : FuncData) (pn : Str) : Prop where
  pos : ∀ (s : Shared) (self u : Value), BindsTo s fd ⟨[self, u], []⟩ [(("self" : Str), self), (pn, u)]
  kw : ∀ (s : Shared) (self u : Value), BindsTo s fd ⟨[self], [(pn, u)]⟩ [(("self" : Str), self), (pn, u)]
theorem run_oex {CX : CXT} {C fI : Addr} {k : Nat} {fd : FuncData} {pn attr : Str} {s1 : Shared} {us : List Value} {kw : List (Str × Value)} {v : V} {u : Value} {Q : VK} (T : OexC X.K C) (iC : PySem.W.findIn X.K (.ref C) "__init__" = some (some (.ref fI))) (tI : PySem.W.typeIn X.K (.ref fI) = some (.type "function"))
    (F1 : FnOk X.prog X.w X.K X.mg X.base CX k fI fd ["self", pn] (spInit C attr)) (hr : Room (k + 1) X.A) (hb : ∀ (s : Shared) (self : Value), BindsTo s fd ⟨self :: us, kw⟩ [(("self" : Str), self), (pn, u)]) (hus : us.length ≤ sizeLine) (hx : Passes CX X (fun _ _ _ => False)) (I1 : Inv X pins σ H1 s1) (r1 : RelV v u)
    (q1 : ∀ a dx, H1 a = none → H1 dx = none → dx ≠ a → Q (.ref a) (upd (upd H1 dx (.xd [(attr, v)])) a (ExvO a C (some dx)))) : wpAny (model X.prog X.w) X.A (call (.ref C) us kw) (EP X pins σ Q) X.xe s1 := by
  obtain ⟨nm, q, N, bs, bm, sn, sub, ab, col, dd, k0, k1, k2, k3, k5, hC, hbm⟩ := T.cls
  obtain ⟨hp, g, dr, tk, os⟩ := s1
  have hsz : hp.objs.size ≤ hp.objs.size + 1 := Nat.le_succ _
  have hn : H1 (hp.objs.size + 1) = none := I1.hok.fresh hsz
  have kk : ∀ b o, hp.get? b = some o → ((hp.push (PySem.W.kdv_tup us)).push (PySem.HandSPX.excO C hp.objs.size)).get? b = some o := fun b o e => Heap.get?_push_of_some _ (Heap.get?_push_of_some _ e)
  have hget : ((hp.push (PySem.W.kdv_tup us)).push (PySem.HandSPX.excO C hp.objs.size)).get? (hp.objs.size + 1) = some (PySem.HandSPX.excO C hp.objs.size) := by heap_get
  have I2 : Inv X pins σ (upd H1 (hp.objs.size + 1) (exo (hp.objs.size + 1) C none)) ⟨(hp.push (PySem.W.kdv_tup us)).push (PySem.HandSPX.excO C hp.objs.size), g, dr, tk, os⟩ :=
    I1.laid (t' := tk) (a := hp.objs.size + 1) (o := exo (hp.objs.size + 1) C none) (h' := (hp.push (PySem.W.kdv_tup us)).push (PySem.HandSPX.excO C hp.objs.size)) kk hsz (exo_ok hget)
  have r2 : Vals [V.ref (hp.objs.size + 1), v] [Value.ref (hp.objs.size + 1), u] := .cons rfl (.cons r1 .nil)
  have hq : spInit C attr [V.ref (hp.objs.size + 1), v] (upd H1 (hp.objs.size + 1) (exo (hp.objs.size + 1) C none)) (fun x H2 => x = .non ∧ ∃ dx, H1 dx = none ∧ dx ≠ hp.objs.size + 1 ∧ H2 = upd (upd (upd H1 (hp.objs.size + 1) (exo (hp.objs.size + 1) C none)) dx (exd dx [(attr, v)])) (hp.objs.size + 1) (exo (hp.objs.size + 1) C (some dx))) (fun _ _ _ => False) :=
    ⟨_, v, rfl, upd_same, fun dx n ne => ⟨rfl, dx, by rw [upd_ne ne] at n; exact n, ne, rfl⟩⟩
  refine wpAny_call (call_kw F.excBase_ValueError (fun Y => PySem.HandSPX.refsVE_contains Y bm hbm) (I1.kIn _ _ hC) (PySem.W.looks_findIn I1.kIn iC) (fun self => PySem.W.bind_fn I1.kIn self tI) hus
    (codeAny_mono (F1.run _ X.stack _ _ ⟨Value.ref (hp.objs.size + 1) :: us, kw⟩ [Value.ref (hp.objs.size + 1), u] _ _ (fun _ _ _ => False) (hr.make C us kw) (I2.env0.make C us kw) (hb _ _) r2 hq) fun r s' hq' => ?_))
  cases r with
  | error er => exact hx pins σ _ _ er s' I2 hq'
  | ok fl =>
    cases fl with
    | ret u =>
      obtain ⟨x, H2, os2, bare2, un2, hok2, rv, ev, dx, hd1, hda, eH⟩ := hq'
      subst ev
      subst eH
      obtain ⟨h2, g2, d2, t2, os'⟩ := s'
      exact ⟨rv, .ref (hp.objs.size + 1), _, oex_made I1 hsz kk hda hd1 un2 hok2 os2 bare2, rfl, q1 _ dx hn hd1 hda⟩
    | next => exact False.elim hq'
    | brk => exact False.elim hq'
    | cont => exact False.elim hq'
end

/-! ### own exceptions as data -/
/-- what is known of such a class -/
structure OexD (Pr : Program) (w : World) (K : PySem.W.Frag) (mg : Str → Option Value) (base : Heap) (C : Addr) (attr pn : Str) : Prop where
  cls : OexC K C
  fn : ∃ (fI : Addr) (fd : FuncData), PySem.W.findIn K (.ref C) "__init__" = some (some (.ref fI)) ∧ PySem.W.typeIn K (.ref fI) = some (.type "function") ∧ BX fd pn ∧ FnOk Pr w K mg base (L2.CX Pr w) 0 fI fd ["self", pn] (spInit C attr)
section
variable {X : Cx} {P : Gl0} {g : G} {e : Expr} {ta : TD} {pos p kpos : Pos} {C : Addr} {attr pn x : Str}
def vMkX (C : Addr) (attr : Str) (ta : TD) : TD := fun ss Q Qx => ta ss (fun d => Q (.exc C [(attr, d)])) Qx
theorem EPD.exc {E : Ex} {H0 H : Hp} {ss : SS} {σ : St} {Q : D → Prop} {a dx : Addr} {v : V} {d : D} (S : Stt P g E H0 ss σ H) (ha : H a = none) (hd : H dx = none) (hda : dx ≠ a) (n : Den P g (Rg g E σ ss) H v d) (q : Q (.exc C [(attr, d)])) :
    EPD P g E H0 ss σ H Q (.ref a) (upd (upd H dx (.xd [(attr, v)])) a (ExvO a C (some dx))) := by
  have ha' : upd H dx (.xd [(attr, v)]) a = none := by rw [upd_ne hda.symm]; exact ha
  have e1 : Ext g.W H (upd H dx (.xd [(attr, v)])) := Ext.new hd
  have e2 : Ext g.W (upd H dx (.xd [(attr, v)])) (upd (upd H dx (.xd [(attr, v)])) a (ExvO a C (some dx))) := Ext.new ha'
  exact ⟨_, (S.new hd).new ha', e1.trans e2, .exc (S.fresh ha) (S.fresh hd) upd_same (by rw [upd_ne hda, upd_same]) (.cons (den_W e2 (den_W e1 n)) .nil), q⟩
theorem d_mkX (T : OexD X.prog X.w X.K X.mg X.base C attr pn) (hr : Room 1 X.A) (hg : Gl X x) (hm : X.mg x = some (.ref C)) (he : DE X P g e ta) (hdb : (x == ("__debug__" : Str)) = false := by decide) (hs : starEach [e] X.env = (false, eval e X.env) :: starEach [] X.env := by rfl) (hpl : (backTo pos (starEach [] X.env)).any (·.1) = false := by rfl) :
    DE X P g (.Call (.Name x p) [e] [] pos) (vMkX C attr ta) := by
  obtain ⟨fI, fd, iC, tI, bx, F1⟩ := T.fn
  refine ⟨fun pins s σ H E H0 ss Q Qx I S T' h => ?_⟩
  refine wpAny_Call_Name_kw (ld_glob I hg hm ?_ hdb)
  refine PySem.W.callWith_K (h₀ := X.base) I.ok.mod.kin T.cls.kC (thn ((pa_cons (he.pe) pa_nil hs).run pos pins s σ H (fun vs H' => ∃ v d, vs = [v] ∧ Stt P g E H0 ss σ H' ∧ Ext g.W H H' ∧ Den P g (Rg g E σ ss) H' v d ∧ Q (.exc C [(attr, d)])) I (upE.run S T' h fun v H1 d S1 e1 n1 q1 => ⟨v, d, rfl, S1, e1, n1, q1⟩)) fun us s1 ⟨vs, H1, I1, r1, q1⟩ => ⟨I1.kIn, ?_⟩) hs hpl
  · obtain ⟨v, d, rfl, S1, e1, n1, q⟩ := q1
    cases r1 with
    | @cons _ u _ _ r1 r2 =>
      cases r2
      exact run_oex T.cls iC tI F1 hr (fun s self => bx.pos s self u) (show 1 ≤ sizeLine from by decide) passL I1 r1 fun a dx ha hd hda => EPD.back e1 (EPD.exc S1 ha hd hda n1 q)
theorem d_mkXK (T : OexD X.prog X.w X.K X.mg X.base C attr pn) (hr : Room 1 X.A) (hg : Gl X x) (hm : X.mg x = some (.ref C)) (he : DE X P g e ta) (hdb : (x == ("__debug__" : Str)) = false := by decide)
    (hall : (backToKw pos (keywordEach [⟨some pn, e, kpos⟩] X.env)).all (·.1.isSome) = true := by rfl) (hks : (backToKw pos (keywordEach [⟨some pn, e, kpos⟩] X.env)).filterMap (·.1) = [pn] := by rfl)
    (hpl : ((backTo pos (starEach [] X.env)).any (·.1) || (backToKw pos (keywordEach [⟨some pn, e, kpos⟩] X.env)).any (·.1.isNone)) = false := by rfl) :
    DE X P g (.Call (.Name x p) [] [⟨some pn, e, kpos⟩] pos) (vMkX C attr ta) := by
  obtain ⟨fI, fd, iC, tI, bx, F1⟩ := T.fn
  refine ⟨fun pins s σ H E H0 ss Q Qx I S T' h => ?_⟩
  refine wpAny_Call_Name_kw (ld_glob I hg hm ?_ hdb)
  refine PySem.W.callWith_KW0 (h₀ := X.base) I.ok.mod.kin T.cls.kC hall ?_ hpl
  refine thn ((pk_cons (he.pe) pk_nil).run pos pins s σ H (fun vs H' => ∃ v d, vs = [v] ∧ Stt P g E H0 ss σ H' ∧ Ext g.W H H' ∧ Den P g (Rg g E σ ss) H' v d ∧ Q (.exc C [(attr, d)])) I (upE.run S T' h fun v H1 d S1 e1 n1 q1 => ⟨v, d, rfl, S1, e1, n1, q1⟩)) fun us s1 ⟨vs, H1, I1, r1, q1⟩ => ⟨I1.kIn, ?_⟩
  · obtain ⟨v, d, rfl, S1, e1, n1, q⟩ := q1
    rw [hks]
    cases r1 with
    | @cons _ u _ _ r1 r2 =>
      cases r2
      exact run_oex T.cls iC tI F1 hr (fun s self => bx.kw s self u) (Nat.zero_le _) passL I1 r1 fun a dx ha hd hda => EPD.back e1 (EPD.exc S1 ha hd hda n1 q)
end
end DL

set_option maxRecDepth 100000
set_option maxHeartbeats 4000000
namespace DL
open PySem PySem.Spec PyProof.Rows L2 LamX NdefX DLX

/-- what the written part tells of the classes -/
structure Txt (K : PySem.W.Frag) (P : Gl0) : Prop where
  isa : ∀ t u b, P.isa t u = some b → PySem.W.kitOne K t u = some b
  ins : ∀ C, P.insC C → Cls K C ∧ PySem.W.findIn K (.ref C) "__class__" = some (some (.builtin "object.__class__")) ∧ PySem.W.mroIn K C (.type "object") = some true
  exc : ∀ C, P.excC C → XfC K C ∧ ExcC K C
  attr : ∀ C f, P.attr C f → PySem.W.findIn K (.ref C) f = some none
  og : PySem.W.specialIn K (.builtin "object.__class__") "__get__" = some (some (.builtin "getset_descriptor.__get__"))
  ot : PySem.W.takesIn K (.builtin "object.__class__") = some true
section
variable {X : Cx} {P : Gl0} {g : G} {a b c e : Expr} {es : List Expr} {ta tb tc : TD} {tt uu : TB} {tl : TL} {pos p p2 : Pos}
variable {E : Ex} {H0 H H1 : Hp} {ss : SS} {σ : St}
/-! ### attributes -/
def vAttr (P : Gl0) (f : Str) (ta : TD) : TD := fun ss Q Qx => ta ss (fun d => match d with
  | .ins C fs => P.insC C ∧ P.attr C f ∧ someD (fs.lookup f) Q
  | .exc C fs => P.excC C ∧ P.attr C f ∧ someD (fs.lookup f) Q
  | _ => False) Qx
theorem d_attr {f : Str} (T : Txt X.K P) (he : DE X P g e ta) (hb : attributeBase e f X.env (eval e X.env) = eval e X.env := by rfl) : DE X P g (.Attribute e f pos) (vAttr P f ta) := by
  refine ⟨fun pins s σ H E H0 ss Q Qx I S T' h => ?_⟩
  refine attr_of hb (thn (he.run pins s σ H E H0 ss _ Qx I S T' h) fun u s1 ⟨x, H1, I1, r1, d, S1, e1, n1, q⟩ => ?_)
  cases d with
  | ins C fs =>
    obtain ⟨h1, h2, h3⟩ := q
    obtain ⟨d, l, q⟩ := h3.ok
    obtain ⟨a, dx, vs, rfl, _, ha, hf⟩ := n1.of_ins
    obtain rfl : u = Value.ref a := r1
    obtain ⟨v, lv, nv⟩ := hf.lookup l
    exact getattr_ok I1 ha (T.ins C h1).1 (T.attr C f h2) lv fun u' s2 I2 ru => ⟨v, H1, I2, ru, d, S1, e1, nv, q⟩
  | exc C fs =>
    obtain ⟨h1, h2, h3⟩ := q
    obtain ⟨d, l, q⟩ := h3.ok
    cases n1 with
    | exc0 _ _ => cases l
    | @exc a _ dd vs _ _ _ ha hd hf =>
      obtain rfl : u = Value.ref a := r1
      obtain ⟨v, lv, nv⟩ := hf.lookup l
      obtain ⟨⟨oe, ws, ho, hc, hdd, hdt⟩, _, _⟩ := I1.hok a _ ha
      have hx : ObjOk X.prog X.w H1 s1.heap dd (.xd vs) := I1.hok dd _ hd
      obtain ⟨mA, hns, hr⟩ := hx
      obtain ⟨od, ho', hl⟩ := lookIn_ns hns
      obtain ⟨u, hu, ru⟩ := RelO.some_of (v := v) (o := mA f) (by rw [← lv]; exact hr f)
      have J : PySem.W.InstAt s1.heap a oe C (some od) := ⟨ho, hc, by unfold PySem.W.notCls; rw [hdt] <;> rfl, by rw [hdd]; exact ho'⟩
      have TX := (T.exc C h1).1
      exact HandSPX.exc_get I1.kIn J TX.ga TX.gg TX.exC (PySem.W.findObj_own TX.hdC (T.attr C f h2) rfl (by rw [hl, hu])) (handed_of ru) ⟨v, H1, I1.tok _, ru, d, S1, e1, nv, q⟩
  | _ => exact q.elim
/-! ### isinstance -/
def tyD (P : Gl0) : D → Option Value
  | .non => some (.type "NoneType")
  | .bl _ => some (.type "bool")
  | .int _ => some (.type "int")
  | .str _ => some (.type "str")
  | .tup _ => some (.type "tuple")
  | .lst _ => some (.type "list")
  | .dct _ => some (.type "dict")
  | .ins C _ => some (.ref C)
  | .exc C _ => some (.ref C)
  | _ => none
def okI (P : Gl0) : D → Prop
  | .ins C _ => P.insC C
  | .exc C _ => P.excC C
  | _ => True
theorem kit_d {pins : List (Addr × Obj)} {s : Shared} {v : V} {u t : Value} {d : D} {R : Addr → Prop} (T : Txt X.K P) (I : Inv X pins σ H s) (rx : RelV v u) (n : Den P g R H v d) (ht : tyD P d = some t) (ho : okI P d) :
    ∃ Pk : Heap → Prop, PySem.W.KitX X.K u t Pk ∧ Pk s.heap ∧ u ≠ .builtin "__main__.__loader__#opaque" := by
  cases n with
  | non => cases ht; exact kit_of I rx (.base .non)
  | bl => cases ht; exact kit_of I rx (.base (.bl _))
  | int => cases ht; exact kit_of I rx (.base (.int _))
  | str => cases ht; exact kit_of I rx (.base (.str _))
  | tup _ h _ => cases ht; exact kit_of I rx (.base (.tup h))
  | lst _ h _ => cases ht; exact kit_of I rx (.base (.lst h))
  | dK _ h _ _ => cases ht; exact kit_of I rx (.base (.dK h))
  | dT _ h _ _ => cases ht; exact kit_of I rx (.base (.dT h))
  | ins _ h _ =>
    cases ht
    obtain ⟨c1, c2, c3⟩ := T.ins _ ho
    exact kit_of I rx (.base (.ins h c1 c2 T.og T.ot c3))
  | exc0 _ h =>
    cases ht
    obtain ⟨⟨oe, ws, ho', hc, hdd, hdt⟩, _, _⟩ := I.hok _ _ h
    have TC := (T.exc _ ho).2
    cases (show u = Value.ref _ from rx)
    obtain ⟨cd, hcd, _⟩ := PySem.W.any_some TC.hd
    exact ⟨_, PySem.W.kitx_exc (by rw [hcd]; rfl) TC.hg TC.hk TC.hs TC.ha TC.hn TC.ht TC.hm, (⟨ho', hc, by unfold PySem.W.notCls; rw [hdt] <;> rfl, by rw [hdd]; trivial⟩ : PySem.W.InstAt s.heap _ oe _ none), fun z => nomatch z⟩
  | exc _ _ h hd _ =>
    cases ht
    obtain ⟨⟨oe, ws, ho', hc, hdd, hdt⟩, _, _⟩ := I.hok _ _ h
    have hx : ObjOk X.prog X.w H s.heap _ (.xd _) := I.hok _ _ hd
    obtain ⟨mA, hns, hr⟩ := hx
    obtain ⟨od, ho2, hl⟩ := lookIn_ns hns
    have TC := (T.exc _ ho).2
    cases (show u = Value.ref _ from rx)
    obtain ⟨cd, hcd, _⟩ := PySem.W.any_some TC.hd
    exact ⟨_, PySem.W.kitx_exc (by rw [hcd]; rfl) TC.hg TC.hk TC.hs TC.ha TC.hn TC.ht TC.hm, (⟨ho', hc, by unfold PySem.W.notCls; rw [hdt] <;> rfl, by rw [hdd]; exact ho2⟩ : PySem.W.InstAt s.heap _ oe _ (some od)), fun z => nomatch z⟩
  | clo _ _ _ _ _ _ => cases ht
  | box _ => cases ht
def vIsi (P : Gl0) (u : Value) (ta : TD) : TD := fun ss Q Qx => ta ss (fun d => okI P d ∧ ∃ t b, tyD P d = some t ∧ P.isa t u = some b ∧ Q (.bl b)) Qx
/-- a class by its name -/
inductive ClsN (X : Cx) : Str → Value → Prop
  | own {x : Str} {C : Addr} : X.mg x = some (.ref C) → ClsN X x (.ref C)
  | ty {x : Str} {n : String} : X.mg x = none → bootBuiltins x = some (.type n) → x ≠ "__name__" → ClsN X x (.type n)
theorem d_isi {cn : Str} {u : Value} (T : Txt X.K P) (hg : Gl X "isinstance") (hm : X.mg "isinstance" = none) (he : DE X P g e ta) (hgc : Gl X cn) (hc : ClsN X cn u) (hdb : (cn == ("__debug__" : Str)) = false := by decide)
    (h1 : starEach [e, .Name cn p2] X.env = (false, eval e X.env) :: starEach [.Name cn p2] X.env := by rfl) (h2 : starEach [.Name cn p2] X.env = (false, eval (.Name cn p2) X.env) :: starEach [] X.env := by rfl) (hpl : (backTo pos (starEach [.Name cn p2] X.env)).any (·.1) = false := by rfl) :
    DE X P g (.Call (.Name "isinstance" p) [e, .Name cn p2] [] pos) (vIsi P u ta) := by
  obtain ⟨cv, pc, cl⟩ : ∃ cv : V, PE X (.Name cn p2) (tC cv) ∧ ClsV cv u := by
    cases hc with
    | own h => exact ⟨.ref _, pe_glob hgc h rfl hdb, .own _⟩
    | ty h1 h2 h3 => exact ⟨.ty _, pe_bltn hgc h1 h2 rfl h3 hdb, .ty _⟩
  refine ⟨fun pins s σ H E H0 ss Q Qx I S T' h => ?_⟩
  refine wpAny_Call_Name_kw (ld_blt I hg hm (show bootBuiltins "isinstance" = some (.builtin "isinstance") from by first | rfl | decide +kernel) ?_ (by decide) (by decide))
  refine PyProof.Rows.callWith_builtin1 (thn ((pa_cons he.pe (pa_cons pc pa_nil h2) h1).run pos pins s σ H (fun vs H' => ∃ v d, vs = [v, cv] ∧ Stt P g E H0 ss σ H' ∧ Ext g.W H H' ∧ Den P g (Rg g E σ ss) H' v d ∧ okI P d ∧ ∃ t b, tyD P d = some t ∧ P.isa t u = some b ∧ Q (.bl b)) I
    (upE.run S T' h fun v H1 d S1 e1 n1 q1 => ⟨v, d, rfl, S1, e1, n1, q1⟩)) fun us s1 ⟨vs, H1, I1, r1, v, d, ev, S1, e1, n1, ho, t, b, ht, hb, q⟩ => ?_) h1 hpl
  subst ev
  obtain ⟨u1, u2, rfl, ra, rb⟩ := vals2 r1
  have e2 := cl.eq rb
  subst e2
  obtain ⟨Pk, Z, pk, hx⟩ := kit_d T I1 ra n1 ht ho
  exact PySem.W.kia_one Z I1.kIn pk (T.isa _ _ _ hb) hx fun tk => ⟨.bl b, H1, I1.tok tk, rfl, _, S1, e1, .bl, q⟩
/-! ### an exception without own __init__ -/
def vMk0 (C : Addr) (ta : TD) : TD := fun ss Q Qx => ta ss (fun _ => Q (.exc C [])) Qx
theorem d_mk0 {x : Str} {C : Addr} (q : PySem.W.excIn X.K C [.type "ValueError", .type "Exception", .type "BaseException", .type "object"] "ValueError.__new__" = true) (hg : Gl X x) (gC : X.mg x = some (.ref C)) (kC : PySem.W.keepIn X.K (.ref C) = true)
    (he : DE X P g e ta) (hs : starEach [e] X.env = (false, eval e X.env) :: starEach [] X.env := by rfl) (hdb : (x == ("__debug__" : Str)) = false := by decide) : DE X P g (.Call (.Name x p) [e] [] pos) (vMk0 C ta) := by
  refine ⟨fun pins s σ H E H0 ss Q Qx I S T' h => ?_⟩
  refine wpAny_Call_Name_kw (ld_glob I hg gC ?_ hdb)
  refine PySem.W.callWith_K (h₀ := X.base) I.ok.mod.kin kC ?_ hs (by rfl)
  rw [hs]
  show wpAny _ _ (spliced ((false, eval e X.env) :: backTo pos (starEach [] X.env))) _ _ s
  refine Calls.spliced_cons (thn (he.run pins s σ H E H0 ss _ Qx I S T' h) fun u s1 ⟨v, H1, I1, r1, d, S1, e1, n1, q1⟩ => ?_)
  refine Calls.spliced_nil ⟨I1.kIn, ?_⟩
  show wpAny _ _ (call (.ref C) [u]) _ _ _
  obtain ⟨bm, N, nm, qn, bs, hdct, sn, sub, ab, col, dd, k0, k1, k2, k3, k5, mN, hC, hN, hni, T⟩ := exc_obj I1.kIn q
  refine wpAny_call_exc_subT F.excBase_ValueError T hC hN hni (fun h' a hm => ?_) (by show 1 ≤ sizeLine; rw [sizeLine_eq]; omega)
  have hn : H1 a = none := I1.hok.gone hm.new
  obtain ⟨t, ht, _, _⟩ := hm.there
  have hok : ObjOk X.prog X.w (upd H1 a (ExvO a C none)) h' a (ExvO a C none) := ⟨⟨_, _, ht, rfl, rfl, rfl⟩, ⟨_, ht⟩, fun h1 h2 ⟨oe, vs, q1, q2⟩ kk => ⟨oe, vs, kk _ q1, q2⟩⟩
  exact ⟨.ref a, upd H1 a (ExvO a C none), I1.laidN hm.keeps hm.new hn hok, rfl, _, S1.new hn, e1.trans (Ext.new hn), .exc0 (S1.fresh hn) upd_same, q1⟩
end
end DL

set_option maxRecDepth 100000
set_option maxHeartbeats 4000000
namespace DL
open PySem PySem.Spec PyProof.Rows L2 LamX NdefX DLX

section
variable {X : Cx} {P : Gl0} {g : G} {a b c e : Expr} {es : List Expr} {ta tb tc : TD} {tt uu : TB} {tl : TL} {pos p p2 : Pos}
variable {E : Ex} {H0 H H1 H' : Hp} {ss : SS} {σ : St}
/-! ### -x -/
def vNeg (ta : TD) : TD := fun ss Q Qx => ta ss (isIn fun i => Q (.int (-i))) Qx
theorem d_neg (he : DE X P g e ta) : DE X P g (.UnaryOp .USub e pos) (vNeg ta) := DE.of (pe_un un_neg he.pe) fun σ H E H0 ss Q Qx S T h => upE.run S T h fun v H' d S' e' n q => by
  obtain ⟨i, rfl, q⟩ := q.ok
  cases n
  exact ⟨i, rfl, _, S', e', .int, q⟩
/-! ### a, b = x, y -/
def vPar (i j : Nat) (tl : TL) : TSt := fun N ss => tl ss (fun ds => match ds with | [d, e] => N.nx ((ss.set i (.v d)).set j (.v e)) | _ => False) N.ex
theorem s_par {i j : Nat} {x y : Str} {px py pt : Pos} {kt k2 pt2} (hc : X.calm = true) (hN : X.N.Nodup) (ha : DA X P g [a, b] tl) (hi : X.N[i]? = some x := by rfl) (hj : X.N[j]? = some y := by rfl) (hij : i ≠ j := by decide)
    (hx : X.env.scope.names.lookup x = some .local := by rfl) (hy : X.env.scope.names.lookup y = some .local := by rfl)
    (hw : swappedStores [.Tuple [.Name x px, .Name y py] kt pt] (.Tuple [a, b] k2 pt2) X.env = pure (some [x, y]) := by rfl)
    (hs : swapsWithSole [.Tuple [.Name x px, .Name y py] kt pt] (.Tuple [a, b] k2 pt2) pos.line X.env = pure false := by rfl) :
    DS X P g (.Assign [.Tuple [.Name x px, .Name y py] kt pt] (.Tuple [a, b] k2 pt2) pos) (vPar i j tl) :=
  DS.of (ps_par hc hN hi hj hij hx hy ha.pa hw hs) fun σ H E H0 ss N S T h => upA.run S T h fun vs H' ds S' e' ns q => by
    match ds, ns, q with
    | [d, e], ns, q =>
      obtain ⟨v, w, rfl, n1, n2⟩ := ns.two
      exact ⟨v, w, rfl, _, (S'.set i n1).set j (Den.mv (Mv.sub fun x r => Rg_setV (fun d z => by cases z) r) n2), q⟩
/-! ### left out besides, in a part -/
theorem TX.out {D : Addr} {Qx : Err → SS → Prop} (T : TX X P g E H0 Qx) : TX X P g (E.out D) H0 Qx := by
  rcases T with T | T
  · exact .inl T
  · exact .inr (T.imp fun c d σ H ⟨err, ss, S, h1, h2⟩ => ⟨err, ss, S.outE, ErrD.mv (Mv.sub fun a r => (rg_out a).mpr (.inl r)) h1, h2⟩)
/-! ### {k: v, ..} -/
structure DPs (X : Cx) (P : Gl0) (g : G) (pos : Pos) (keys : List (Option Expr)) (values : List Expr) (t : SS → (List D → List D → Prop) → (Err → SS → Prop) → Prop) : Prop where
  ex : ∃ trs, PPs X pos keys values trs ∧ ∀ (σ : St) (H : Hp) (E : Ex) (H0 : Hp) (ss : SS) (Q : List D → List D → Prop) (Qx : Err → SS → Prop) (K : List (V × V) → Hp → Prop), Stt P g E H0 ss σ H → TX X P g E H0 Qx → t ss Q Qx →
    (∀ ps H' ks vs, Stt P g E H0 ss σ H' → Ext g.W H H' → DenL P g (Rg g E σ ss) H' (ps.map (·.1)) ks → DenL P g (Rg g E σ ss) H' (ps.map (·.2)) vs → Q ks vs → K ps H') → tPairs trs σ H K
theorem dps_nil : DPs X P g pos [] [] (fun ss Q _ => Q [] []) := ⟨_, pps_nil, fun σ H E H0 ss Q Qx K S T h k => k [] H [] [] S (Ext.refl _ _) .nil .nil h⟩
theorem dps_cons {ks : List (Option Expr)} {vs : List Expr} {t : SS → (List D → List D → Prop) → (Err → SS → Prop) → Prop} (hk : DE X P g a ta) (hv : DE X P g b tb) (hr : DPs X P g pos ks vs t) :
    DPs X P g pos (some a :: ks) (b :: vs) (fun ss Q Qx => ta ss (fun x => tb ss (fun y => t ss (fun ks vs => Q (x :: ks) (y :: vs)) Qx) Qx) Qx) := by
  obtain ⟨trs, h1, h2⟩ := hr.ex
  refine ⟨_, pps_cons hk.pe hv.pe h1, fun σ H E H0 ss Q Qx K S T h k => upE.run S T h fun x H1 dx S1 e1 n1 q1 => upE.run S1 T q1 fun y H2 dy S2 e2 n2 q2 => ?_⟩
  exact h2 σ H2 E H0 ss _ Qx _ S2 T q2 fun ps H3 ks vs S3 e3 l1 l2 q => k _ H3 _ _ S3 ((e1.trans e2).trans e3) (.cons (den_W e3 (den_W e2 n1)) l1) (.cons (den_W e3 n2) l2) q
theorem merge_nd : ∀ {kvs more : List (Key × V)}, ((kvs ++ more).map (·.1)).Nodup → mergeK kvs more = kvs ++ more
  | kvs, [], _ => by simp [mergeK]
  | kvs, p :: more, h => by
    have hp : valV kvs p.1 = none := by
      cases e : valV kvs p.1 with
      | none => rfl
      | some v =>
        exfalso
        unfold valV at e
        obtain ⟨q, h1, _⟩ := Option.map_eq_some_iff.mp e
        have hm := List.mem_of_find?_eq_some h1
        have he := List.find?_some h1
        have he : q.1 = p.1 := by simpa using he
        rw [List.map_append, List.nodup_append] at h
        exact h.2.2 q.1 (List.mem_map_of_mem hm) p.1 (by simp) he
    show mergeK (putK kvs p.1 p.2) more = _
    rw [putK_new _ hp, merge_nd (by simpa using h)]
    simp
theorem den_keys : ∀ {keys : List Key} {vs : List V} {R : Addr → Prop}, DenL P g R H vs (keys.map keyD) → vs = keys.map kV
  | [], _, _, h => by cases h; rfl
  | k :: ks, _, _, h => by
    cases h with
    | cons h t =>
      rw [den_keys t]
      cases k with
      | inl i => cases h; rfl
      | inr x => cases h; rfl
/-- the keys, as data -/
def dKeys : List D → Option (List Key)
  | [] => some []
  | .int i :: ds => (dKeys ds).map (.inl i :: ·)
  | .str x :: ds => (dKeys ds).map (.inr x :: ·)
  | _ => none
theorem dKeys_ok : ∀ {ds : List D} {ks : List Key}, dKeys ds = some ks → ds = ks.map keyD
  | [], ks, h => by cases h; rfl
  | .int i :: ds, ks, h => by
    simp only [dKeys] at h
    obtain ⟨l, h1, h2⟩ := Option.map_eq_some_iff.mp h
    subst h2
    rw [dKeys_ok h1]
    rfl
  | .str x :: ds, ks, h => by
    simp only [dKeys] at h
    obtain ⟨l, h1, h2⟩ := Option.map_eq_some_iff.mp h
    subst h2
    rw [dKeys_ok h1]
    rfl
  | .non :: _, _, h => by simp only [dKeys] at h; cases h
  | .bl _ :: _, _, h => by simp only [dKeys] at h; cases h
  | .tup _ :: _, _, h => by simp only [dKeys] at h; cases h
  | .lst _ :: _, _, h => by simp only [dKeys] at h; cases h
  | .dct _ :: _, _, h => by simp only [dKeys] at h; cases h
  | .ins _ _ :: _, _, h => by simp only [dKeys] at h; cases h
  | .exc _ _ :: _, _, h => by simp only [dKeys] at h; cases h
  | .clo _ _ :: _, _, h => by simp only [dKeys] at h; cases h
  | .box _ :: _, _, h => by simp only [dKeys] at h; cases h
def vDct (t : SS → (List D → List D → Prop) → (Err → SS → Prop) → Prop) : TD := fun ss Q Qx => t ss (fun ks vs => ∃ keys, dKeys ks = some keys ∧ keys.Nodup ∧ keys.length ≤ 15 ∧ Q (.dct (ks.zip vs))) Qx
theorem tabs_mut {Hq : Hp} {q : Addr} {o u : HO} {T : List NTab} (t : TabsN T Hq) (hq : Hq q = some o) (h1 : ∀ ps, o ≠ .tbl ps) (h2 : ∀ φ, o ≠ .ext φ) : TabsN T (upd Hq q u) := fun x hx => by
  obtain ⟨ps, q1, q2, q3⟩ := t x hx
  refine ⟨ps, by rw [upd_ne (fun z => by rw [z, hq] at q1; exact h1 _ (Option.some.inj q1))]; exact q1, q2, fun pos cv hc => ?_⟩
  obtain ⟨c', e1, e2⟩ := q3 pos cv hc
  exact ⟨c', e1, by rw [upd_ne (fun z => by rw [z, hq] at e2; unfold CodeO at e2; exact h2 _ (Option.some.inj e2))]; exact e2⟩
theorem d_disp {keys : List (Option Expr)} {values : List Expr} {t : SS → (List D → List D → Prop) → (Err → SS → Prop) → Prop} (hp : DPs X P g pos keys values t) (hall : keys.all (·.isSome) = true := by rfl) (hl : keys.length = values.length := by rfl) (h0 : keys ≠ [] := by exact fun z => by cases z)
    (h15 : keys.length ≤ 15 := by decide) : DE X P g (.Dict keys values pos) (vDct t) := by
  obtain ⟨trs, h1, h2⟩ := hp.ex
  refine DE.of (pe_disp h1 hall hl h0 h15) fun σ H E H0 ss Q Qx S T h p hp => ?_
  have S1 : Stt P g (E.out p) H0 ss σ (upd H p (.dK [])) := S.outN hp NT.dK
  refine h2 σ _ (E.out p) H0 ss _ Qx _ S1 T.out h fun ps H2 ks vs S2 e2 l1 l2 ⟨keys, hk, nd, hlen, q⟩ => ?_
  have inR : Rg g (E.out p) σ ss p := (rg_out p).mpr (.inr rfl)
  have fp : ¬ Rg g E σ ss p := S.fresh hp
  have nW : ¬ g.W p := fun w => fp (Rg.W w)
  have hp2 : H2 p = some (.dK []) := e2.keep p _ upd_same NT.dK nW
  have ek := dKeys_ok hk
  subst ek
  have e1 := den_keys l1
  have lk : ps.length = keys.length := by
    have := congrArg List.length e1
    simpa using this
  obtain ⟨kvs, hkv⟩ : ∃ kvs : List (Key × V), kvs = keys.zip (ps.map (·.2)) := ⟨_, rfl⟩
  have k1 : kvs.map (·.1) = keys := by rw [hkv]; exact List.map_fst_zip (by simp [lk])
  have k2 : kvs.map (·.2) = ps.map (·.2) := by rw [hkv]; exact List.map_snd_zip (by simp [lk])
  have eps : ps = kvs.map (fun kv => (kV kv.1, kv.2)) := by
    apply List.ext_getElem?
    intro i
    have a1 := congrArg (fun l : List V => l[i]?) e1
    have a2 := congrArg (fun l : List Key => l[i]?) k1
    have a3 := congrArg (fun l : List V => l[i]?) k2
    simp only [List.getElem?_map] at a1 a2 a3 ⊢
    cases x1 : ps[i]? with
    | none =>
      rw [x1] at a3
      cases x2 : kvs[i]? with
      | none => rfl
      | some kv => rw [x2] at a3; cases a3
    | some pr =>
      rw [x1] at a1 a3
      cases x2 : kvs[i]? with
      | none => rw [x2] at a3; cases a3
      | some kv =>
        rw [x2] at a2 a3
        rw [← a2] at a1
        have b1 : pr.1 = kV kv.1 := by simpa using a1
        have b2 : kv.2 = pr.2 := by simpa using a3
        simp [← b1, b2]
  refine ⟨hp2, kvs, eps, by have := congrArg List.length k1; rw [List.length_map] at this; rw [this]; exact hlen, ?_⟩
  have ndk : (([] ++ kvs : List (Key × V)).map (·.1)).Nodup := by rw [List.nil_append, k1]; exact nd
  rw [merge_nd ndk, List.nil_append]
  have eF : Ext g.W H (upd H2 p (.dK kvs)) := by
    have eH : Ext g.W H H2 := (Ext.new hp).trans e2
    exact eH.mut hp
  have mv : Mv g g (Rg g (E.out p) σ ss) (Rg g E σ ss) H2 (upd H2 p (.dK kvs)) := ⟨fun x o n h _ => ⟨by rw [upd_ne (fun z => n (by rw [z]; exact inR))]; exact h, fun r => n ((rg_out x).mpr (.inl r))⟩, fun _ _ b => b⟩
  have sg : SG P g (Rg g E σ ss) (upd H2 p (.dK kvs)) := ⟨tabs_mut S2.sg.tabs hp2 (fun _ z => by cases z) (fun _ z => by cases z), g.hinv _ _ (fun x o w h => by rw [upd_ne (fun z => nW (by rw [← z]; exact w))]; exact h) S2.sg.inv, fun x r => by
    obtain ⟨o, q, n⟩ := S2.sg.trk x ((rg_out x).mpr (.inl r))
    exact ⟨o, by rw [upd_ne (fun z => fp (by rw [← z]; exact r))]; exact q, n⟩⟩
  refine ⟨_, S.ext eF sg, eF, ?_, q⟩
  have := Den.dK (P := P) (g := g) (R := Rg g E σ ss) (H := upd H2 p (.dK kvs)) (a := p) (kvs := kvs) (l := vs) fp upd_same (by rw [k2]; exact DenL.mv mv l2) (by rw [k1]; exact nd)
  have em : (kvs.map fun p => keyD p.1) = keys.map keyD := by rw [← k1, List.map_map]; rfl
  rw [em] at this
  exact this
theorem d_dnew : DE X P g (.Dict [] [] pos) (vC (.dct [])) := DE.of pe_dnewK fun σ H E H0 ss Q Qx S T h p hp =>
  ⟨_, S.new hp, Ext.new hp, .dK (kvs := []) (l := []) (S.fresh hp) upd_same .nil .nil, h⟩
/-! ### x in l -/
def rMem (f : Bool → Bool) : RD := fun x y Q => match toPy x, toPy y with
  | some p, some (.list qs) => SeqAt.shaped p = true ∧ SeqAt.shaped (.list qs) = true ∧ Q (.bl (f (qs.any fun z => PyData.eqv z p)))
  | _, _ => False
theorem o_in (hu : X.A.units + 65 < cLine) : OpD X P g (compareOp .In) (rMem id) := by
  refine ⟨_, op_inD hu, fun σ H E H0 ss x y dx dy Q K S nx ny h kk => ?_⟩
  unfold rMem at h
  split at h
  · rename_i p q e1 e2
    exact ⟨p, q, toPy_dp _ e1 nx, toPy_dp _ e2 ny, h.1, h.2.1, kk _ _ (.now S .bl h.2.2)⟩
  · exact h.elim
theorem o_notIn (hu : X.A.units + 65 < cLine) : OpD X P g (compareOp .NotIn) (rMem not) := by
  refine ⟨_, op_notInD hu, fun σ H E H0 ss x y dx dy Q K S nx ny h kk => ?_⟩
  unfold rMem at h
  split at h
  · rename_i p q e1 e2
    exact ⟨p, q, toPy_dp _ e1 nx, toPy_dp _ e2 ny, h.1, h.2.1, kk _ _ (.now S .bl h.2.2)⟩
  · exact h.elim
/-! ### enumerate(l) -/
def enumD (l : List D) : List D := (l.zipIdx).map fun p => D.tup [.int (p.2 : Nat), p.1]
theorem enumD_len (l : List D) : (enumD l).length = l.length := by simp [enumD]
theorem enumD_get {l : List D} {i : Nat} {d : D} (h : (enumD l)[i]? = some d) : ∃ x, l[i]? = some x ∧ d = .tup [.int (i : Nat), x] := by
  unfold enumD at h
  rw [List.getElem?_map, List.getElem?_zipIdx] at h
  obtain ⟨p, h1, h2⟩ := Option.map_eq_some_iff.mp h
  obtain ⟨x, h3, h4⟩ := Option.map_eq_some_iff.mp h1
  subst h4
  refine ⟨x, h3, ?_⟩
  rw [← h2]
  simp
theorem src_enum {K : PySem.W.Frag} {a : Addr} {vs : List V} {l : List D} : Src P g (Ite K a) (enumD l) (fun H R => H a = some (.lst vs) ∧ ¬ R a ∧ DenL P g R H vs l) where
  hz := fun H H' R R' m ⟨h1, h2, h3⟩ => ⟨(m a _ h2 h1 NT.lst).1, (m a _ h2 h1 NT.lst).2, DenL.mv (mvR m) h3⟩
  go := fun i H R _ ⟨h1, h2, h3⟩ hi => by
    rw [enumD_len] at hi
    exact ⟨vs, vs[i]'(by rw [h3.length]; exact hi), SqL.of h1, List.getElem?_eq_getElem _⟩
  yld := fun i H R x H' d _ ⟨h1, h2, h3⟩ hr hd hy => by
    obtain ⟨T, y, rfl, hT, rfl, hy⟩ := hy
    obtain ⟨dx, q1, rfl⟩ := enumD_get hd
    obtain ⟨v, q2, q3⟩ := h3.get q1
    have := hy vs (SqL.of h1)
    rw [q2] at this
    cases this
    have ne : ∀ b o, H b = some o → upd H T (.tup [.int (i : Nat), y]) b = some o := same_new hT
    refine ⟨ne, .tup (fun r => hr T r hT) upd_same (.cons .int (.cons (Den.mv ⟨fun b o n h _ => ⟨ne b o h, n⟩, fun _ _ b => b⟩ q3) .nil))⟩
  stop := fun i H R _ ⟨h1, h2, h3⟩ e => ⟨vs, SqL.of h1, by rw [h3.length, e, enumD_len]; exact Nat.le_refl _⟩
def vEnum (tl : TL) : TL := fun ss Q Qx => tl ss (fun ds => match ds with | [.lst l] => Q (enumD l) | _ => False) Qx
theorem i_enum {elts : List Expr} {kk : Nat} {tpos : Pos} (hg : Gl X "enumerate") (hm : X.mg "enumerate" = none) (ha : DA X P g [e] tl) (hs : starEach [e] X.env = [(false, eval e X.env)] := by rfl) : DI X P g (.Tuple elts kk tpos) (.Call (.Name "enumerate" p) [e] [] pos) (vEnum tl) :=
  ⟨_, pi_enum hg hm ha.pa hs, fun σ H E H0 ss Q Qx R S T h k => upA.run S T h fun vs H1 ds S1 e1 ns q => by
    match ds, ns, q with
    | [.lst l], ns, q =>
      obtain ⟨v, rfl, n⟩ := ns.one
      obtain ⟨a, ws, rfl, nr, ha, hl⟩ := n.of_lst
      exact ⟨a, ws, rfl, SqL.of ha, k _ H1 (enumD l) _ S1 e1 src_enum ⟨ha, nr, hl⟩ q⟩⟩
end
end DL

set_option maxRecDepth 100000
set_option maxHeartbeats 4000000
namespace DL
open PySem PySem.Spec PyProof.Rows L2 LamX NdefX DLX

/-! ### repr -/
mutual
def toPd : D → Option PyData
  | .non => some .none
  | .bl b => some (.bool b)
  | .int i => some (.int i)
  | .str x => some (.str x)
  | .lst l => (toPdL l).map .list
  | .tup l => (toPdL l).map .tuple
  | .dct l => (toPdK l).map .dict
  | .ins _ _ => none
  | .exc _ _ => none
  | .clo _ _ => none
  | .box _ => none
def toPdL : List D → Option (List PyData)
  | [] => some []
  | d :: ds => match toPd d, toPdL ds with
    | some p, some ps => some (p :: ps)
    | _, _ => none
def toPdK : List (D × D) → Option (List (PyData × PyData))
  | [] => some []
  | d :: ds => match toPdP d, toPdK ds with
    | some p, some ps => some (p :: ps)
    | _, _ => none
def toPdP : D × D → Option (PyData × PyData)
  | (k, v) => match k, toPd v with
    | .int i, some p => some (.int i, p)
    | .str x, some p => some (.str x, p)
    | _, _ => none
end
mutual
def noList : PyData → Bool
  | .list _ => false
  | .tuple l => noListL l
  | .dict kvs => noListK kvs
  | _ => true
def noListL : List PyData → Bool
  | [] => true
  | x :: xs => noList x && noListL xs
def noListK : List (PyData × PyData) → Bool
  | [] => true
  | (k, v) :: xs => noList v && noListK xs
end
section
variable {X : Cx} {P : Gl0} {g : G} {R : Addr → Prop} {H : Hp} {pins : List (Addr × Obj)} {σ : St} {s : Shared}
theorem keys_read {pr : Program} {w : World} {h : Heap} : ∀ {es : List DictEntry} {kvs : List (Key × Value)}, Pairs (mixKind pr w) es kvs → ReadsAll h (es.map (·.key)) (kvs.map fun kv => match kv.1 with | .inl i => PyData.int i | .inr x => PyData.str x) [] ∧ es.map (·.val) = kvs.map (·.2) := by
  intro es kvs h
  induction h with
  | nil => exact ⟨.nil, rfl⟩
  | @cons e kv es kvs h1 h2 _ ih =>
    obtain ⟨k, v⟩ := kv
    refine ⟨?_, by rw [List.map_cons, List.map_cons, h2, ih.2]⟩
    rw [List.map_cons, List.map_cons]
    rcases keyIs_shape (show keyIs k e.key = true from h1) with ⟨i, t, e1, e2⟩ | ⟨x, t, e1, e2⟩
    · have e1 : k = .inl i := e1
      subst e1
      rw [e2]
      exact ReadsAll.cons (as := []) (.int i t) ih.1
    · have e1 : k = .inr x := e1
      subst e1
      rw [e2]
      exact ReadsAll.cons (as := []) (.str x t) ih.1
def keyPd : Key → PyData
  | .inl i => .int i
  | .inr x => .str x
theorem toPdK_ok : ∀ {ks : List Key} {l : List D} {ps : List (PyData × PyData)}, ks.length = l.length → toPdK ((ks.map keyD).zip l) = some ps → ∃ qs, toPdL l = some qs ∧ ps.map (·.1) = ks.map keyPd ∧ ps.map (·.2) = qs
  | [], [], ps, _, h => by
    simp only [List.map_nil, List.zip_nil_left, toPdK] at h
    cases h
    exact ⟨[], rfl, rfl, rfl⟩
  | k :: ks, d :: l, ps, hl, h => by
    simp only [List.map_cons, List.zip_cons_cons, toPdK] at h
    split at h
    · rename_i p qs h1 h2
      cases h
      obtain ⟨q, e1, e2, e3⟩ := toPdK_ok (by simpa using hl) h2
      simp only [toPdP] at h1
      split at h1
      · rename_i i p' e4 e5
        cases h1
        refine ⟨p' :: q, by simp only [toPdL]; rw [e5, e1], ?_, by rw [List.map_cons, e3]⟩
        rw [List.map_cons, List.map_cons, e2]
        cases k with
        | inl j => cases e4; rfl
        | inr x => cases e4
      · rename_i i p' e4 e5
        cases h1
        refine ⟨p' :: q, by simp only [toPdL]; rw [e5, e1], ?_, by rw [List.map_cons, e3]⟩
        rw [List.map_cons, List.map_cons, e2]
        cases k with
        | inl j => cases e4
        | inr x => cases e4; rfl
      · cases h1
    · cases h
  | [], d :: l, ps, hl, h => by simp at hl
  | k :: ks, [], ps, hl, h => by simp at hl
theorem noListK_ok : ∀ {kvs : List (PyData × PyData)}, noListK kvs = true → noListL (kvs.map (·.2)) = true
  | [], _ => rfl
  | (k, v) :: r, h => by
    simp only [noListK, Bool.and_eq_true] at h
    simp only [List.map_cons, noListL, Bool.and_eq_true]
    exact ⟨h.1, noListK_ok h.2⟩
theorem kv_vals : ∀ {kvs : List (Key × V)} {vs : List (Key × Value)}, KV kvs vs → Vals (kvs.map (·.2)) (vs.map (·.2))
  | [], [], _ => .nil
  | _ :: _, _ :: _, .cons h t => .cons h.2 (kv_vals t)
mutual
theorem den_rd (I : Inv X pins σ H s) : ∀ {v : V} {d : D}, Den P g R H v d → ∀ {p : PyData} {u : Value}, toPd d = some p → RelV v u → ∃ as, Reads s.heap u p as ∧ (noList p = true → sysModules ∉ as)
  | _, _, .non, p, u, h, r => by
    simp only [toPd] at h; cases h
    cases (show u = Value.none from r)
    exact ⟨_, .none, fun _ z => by cases z⟩
  | _, _, .bl (b := b), p, u, h, r => by
    simp only [toPd] at h; cases h
    cases (show u = Value.bool b from r)
    exact ⟨_, .bool b, fun _ z => by cases z⟩
  | _, _, .int (i := i), p, u, h, r => by
    simp only [toPd] at h; cases h
    obtain ⟨t, q⟩ := (show ∃ t, u = Value.int i t from r)
    subst q
    exact ⟨_, .int i t, fun _ z => by cases z⟩
  | _, _, .str (x := x), p, u, h, r => by
    simp only [toPd] at h; cases h
    obtain ⟨t, q⟩ := (show ∃ t, u = Value.str x t from r)
    subst q
    exact ⟨_, .str x t, fun _ z => by cases z⟩
  | _, _, .lst (a := a) (vs := vs) _ ha hl, p, u, h, r => by
    simp only [toPd] at h
    obtain ⟨ps, h1, h2⟩ := Option.map_eq_some_iff.mp h
    subst h2
    obtain rfl : u = Value.ref a := r
    obtain ⟨_, us, n, rv, ho⟩ := (show ObjOk X.prog X.w H s.heap a (.lst vs) from I.hok a _ ha)
    obtain ⟨as, q, _⟩ := den_rdL I hl h1 rv
    exact ⟨_, .list ho rfl rfl (by simpa using q), fun z => by cases z⟩
  | _, _, .tup (a := a) (vs := vs) _ ha hl, p, u, h, r => by
    simp only [toPd] at h
    obtain ⟨ps, h1, h2⟩ := Option.map_eq_some_iff.mp h
    subst h2
    obtain rfl : u = Value.ref a := r
    obtain ⟨_, us, rv, o, ho, hc, n, hd⟩ := (show ObjOk X.prog X.w H s.heap a (.tup vs) from I.hok a _ ha)
    obtain ⟨as, q, q2⟩ := den_rdL I hl h1 rv
    exact ⟨_, .tuple ho hc hd (by simpa using q), fun z => q2 (by simpa only [noList] using z)⟩
  | _, _, .dK (a := a) (kvs := kvs) (l := l) _ ha hl nd, p, u, h, r => by
    simp only [toPd] at h
    obtain ⟨ps, h1, h2⟩ := Option.map_eq_some_iff.mp h
    subst h2
    obtain rfl : u = Value.ref a := r
    obtain ⟨_, hs, vs, kv, o, es, ep, ho, hx, hd, _, hp, _⟩ := dk_of I.hok ha
    have len : kvs.length = l.length := by rw [← hl.length, List.length_map]
    have e0 : (kvs.map fun p => keyD p.1) = (kvs.map (·.1)).map keyD := by rw [List.map_map]; rfl
    rw [e0] at h1
    obtain ⟨qs, e1, e2, e3⟩ := toPdK_ok (by rw [List.length_map]; exact len) h1
    obtain ⟨k1, k2⟩ := keys_read (h := s.heap) hp
    have kk := kv.keys
    obtain ⟨as, q, q2⟩ := den_rdL I hl e1 (kv_vals kv)
    refine ⟨a :: [] ++ as, .dict ho hx.1 hd ?_ ?_, fun z => ?_⟩
    · rw [e2, kk]
      have ek : (vs.map (·.1)).map keyPd = vs.map fun kv => (match kv.1 with | .inl i => PyData.int i | .inr x => PyData.str x) := by
        rw [List.map_map]
        apply List.map_congr_left
        intro x _
        obtain ⟨x1, x2⟩ := x
        cases x1 <;> rfl
      rw [ek]
      exact k1
    · rw [k2, e3]
      exact q
    · have z' := q2 (by rw [← e3]; exact noListK_ok (by simpa only [noList] using z))
      intro m
      rcases List.mem_append.mp m with m | m
      · have : sysModules = a := by simpa using m
        rw [this] at hs
        simp at hs
      · exact z' m
  | _, _, .dT (a := a) (kvs := []) (l := l) _ ha hl nd, p, u, h, r => by
    simp only [toPd, List.map_nil, List.zip_nil_left, toPdK, Option.map_some] at h
    cases h
    obtain rfl : u = Value.ref a := r
    obtain ⟨_, hs, xs, kt, o, es, ep, ho, hx, hd, hes, _⟩ := dt_of I.hok ha
    cases kt
    refine ⟨a :: [] ++ [], .dict ho hx.1 hd ?_ ?_, fun z m => ?_⟩
    · rw [hes]; exact .nil
    · rw [hes]; exact .nil
    · have : sysModules = a := by simpa using m
      rw [this] at hs
      simp at hs
  | _, _, .dT (a := a) (kvs := kv :: kvs) (l := []) _ ha hl nd, p, u, h, r => by cases hl
  | _, _, .dT (a := a) (kvs := kv :: kvs) (l := d :: l) _ ha hl nd, p, u, h, r => by simp [toPd, toPdK, toPdP] at h
  | _, _, .ins _ _ _, p, u, h, r => by simp only [toPd] at h; cases h
  | _, _, .exc0 _ _, p, u, h, r => by simp only [toPd] at h; cases h
  | _, _, .exc _ _ _ _ _, p, u, h, r => by simp only [toPd] at h; cases h
  | _, _, .clo _ _ _ _ _ _ _, p, u, h, r => by simp only [toPd] at h; cases h
  | _, _, .box _, p, u, h, r => by simp only [toPd] at h; cases h
theorem den_rdL (I : Inv X pins σ H s) : ∀ {vs : List V} {ds : List D}, DenL P g R H vs ds → ∀ {ps : List PyData} {us : List Value}, toPdL ds = some ps → Vals vs us → ∃ as, ReadsAll s.heap us ps as ∧ (noListL ps = true → sysModules ∉ as)
  | _, _, .nil, ps, us, h, r => by
    simp only [toPdL] at h; cases h; cases r
    exact ⟨_, .nil, fun _ z => by cases z⟩
  | _, _, .cons n1 n2, ps, us, h, r => by
    simp only [toPdL] at h
    split at h
    · rename_i p qs h1 h2
      cases h
      cases r with
      | cons r1 r2 =>
        obtain ⟨as, a1, a2⟩ := den_rd I n1 h1 r1
        obtain ⟨bs, b1, b2⟩ := den_rdL I n2 h2 r2
        refine ⟨_, .cons a1 b1, fun z m => ?_⟩
        simp only [noListL, Bool.and_eq_true] at z
        rcases List.mem_append.mp m with m | m
        · exact a2 z.1 m
        · exact b2 z.2 m
    · cases h
end
end

section
variable {X : Cx} {P : Gl0} {g : G} {e : Expr} {es : List Expr} {ta : TD} {tl : TL} {pos p p2 : Pos}
/-- repr([..]) -/
def vRepL (tl : TL) : TD := fun ss Q Qx => tl ss (fun ds => ds.length ≤ 100000 ∧ ∃ ps, toPdL ds = some ps ∧ (PyData.list ps).showable = true ∧ (PyData.hasDictAll ps = false ∨ noListL ps = true) ∧ (PyData.list ps).depth ≤ 60 ∧ (PyData.list ps).shown.length ≤ sizeLine ∧ Q (.str (PyData.list ps).shown)) Qx
theorem d_repL (hr : Room 1 X.A) (hgd : X.A.guards = some []) (hg : Gl X "repr") (hm : X.mg "repr" = none) (ha : DA X P g es tl)
    (h1 : starEach [.List es p2] X.env = (false, eval (.List es p2) X.env) :: starEach [] X.env := by rfl) : DE X P g (.Call (.Name "repr" p) [.List es p2] [] pos) (vRepL tl) := by
  refine ⟨fun pins s σ H E H0 ss Q Qx I S T h => ?_⟩
  refine wpAny_Call_Name_kw (ld_blt I hg hm (show bootBuiltins "repr" = some (.builtin "repr") from by first | rfl | decide +kernel) ?_ (by decide) (by decide))
  refine PyProof.Rows.callWith_builtin1 ?_ h1 rfl
  rw [h1]
  show wpAny _ _ (spliced ((false, eval (.List es p2) X.env) :: backTo pos (starEach [] X.env))) _ _ s
  refine Calls.spliced_cons ?_
  refine wpAny_List_spliced (thn (ha.run _ pins s σ H E H0 ss _ Qx I S T h) fun us s1 ⟨xs, H1, I1, r, ds, S1, e1, n1, hlen, ps, hps, hsh, hdl, hdep, hsz, q⟩ => ⟨?_, ?_⟩)
  · rw [← r.length, n1.length]
    exact line5 hlen
  · refine Calls.spliced_nil ?_
    have hf : H1 s1.heap.objs.size = none := I1.hok.fresh (Nat.le_refl _)
    have zl : xs.length ≤ sizeLine := by rw [n1.length]; exact line5 hlen
    have I2 : Inv X pins σ (upd H1 s1.heap.objs.size (.lst xs)) { s1 with heap := s1.heap.push { cls := .type "list", data := .seq us.toArray } } := I1.laid (t' := s1.toks) (fun b u e => Heap.get?_push_of_some _ e) (Nat.le_refl _) ⟨zl, us, 0, r, Heap.get?_push_size _ rfl⟩
    have S2 := S1.new (o := .lst xs) hf
    have e2 : Ext g.W H1 (upd H1 s1.heap.objs.size (.lst xs)) := Ext.new hf
    obtain ⟨as, ra, rb⟩ := den_rdL I2 (denL_W e2 n1) hps r
    have rd : Reads (s1.heap.push { cls := .type "list", data := .seq us.toArray }) (.ref s1.heap.objs.size) (.list ps) (s1.heap.objs.size :: as) := .list (Heap.get?_push_size _ rfl) rfl rfl (by simpa using ra)
    have hu := hr.units
    refine repr_of_reads' (s := { s1 with heap := s1.heap.push { cls := .type "list", data := .seq us.toArray } }) rd hsh (fun hd m => ?_) hgd (by omega) (fun _ _ z => z) (fun h' u tk k => ?_) hsz
    · rcases List.mem_cons.mp m with m | m
      · exact absurd (show sysModules < s1.heap.objs.size from I1.big) (by rw [m]; exact Nat.lt_irrefl _)
      · rcases hdl with z | z
        · rw [show (PyData.list ps).hasDict = PyData.hasDictAll ps from by simp only [PyData.hasDict], z] at hd
          cases hd
        · exact rb z m
    · exact ⟨.str _, _, I2.kept (t' := tk) k, ⟨_, rfl⟩, _, S2, e1.trans e2, .str, q⟩
end
end DL

set_option maxRecDepth 100000
set_option maxHeartbeats 4000000
namespace DL
open PySem PySem.Spec PyProof.Rows L2 LamX NdefX DLX

/-! ### the draw: a dict with two lists -/
def dkv (L C : Addr) (rest turn : Int) : List (Key × V) := [(.inr "large", .ref L), (.inr "rest", .int rest), (.inr "cells", .ref C), (.inr "turn", .int turn)]
structure DrawIn (r L C : Addr) (cells : List Int) (H : Hp) : Prop where
  rl : r ≠ L
  rc : r ≠ C
  lc : L ≠ C
  d : ∃ rest turn, H r = some (.dK (dkv L C rest turn))
  l : ∃ ls : List Int, H L = some (.lst (ls.map V.int)) ∧ ls.length ≤ 100
  c : H C = some (.lst (cells.map V.int)) ∧ cells.length ≤ 100
def drawB (r L C : Addr) (cells : List Int) : B where
  W := fun a => a = r ∨ a = L ∨ a = C
  inv := DrawIn r L C cells
  bx := fun n a => n = 0 ∧ a = r
  hinv := fun H H' k h => ⟨h.rl, h.rc, h.lc, let ⟨x, y, e⟩ := h.d; ⟨x, y, k _ _ (.inl rfl) e⟩, let ⟨x, e, z⟩ := h.l; ⟨x, k _ _ (.inr (.inl rfl)) e, z⟩, ⟨k _ _ (.inr (.inr rfl)) h.c.1, h.c.2⟩⟩
def gpD (b : B) : Prop := ∃ r L C cells, b = drawB r L C cells
theorem dkv_large {L C : Addr} {x y : Int} : valV (dkv L C x y) (.inr "large") = some (.ref L) := by first | rfl | simp [dkv, valV]
theorem dkv_rest {L C : Addr} {x y : Int} : valV (dkv L C x y) (.inr "rest") = some (.int x) := by first | rfl | simp [dkv, valV]
theorem dkv_cells {L C : Addr} {x y : Int} : valV (dkv L C x y) (.inr "cells") = some (.ref C) := by first | rfl | simp [dkv, valV]
theorem dkv_turn {L C : Addr} {x y : Int} : valV (dkv L C x y) (.inr "turn") = some (.int y) := by first | rfl | simp [dkv, valV]
theorem dkv_putR {L C : Addr} {x y z : Int} : putK (dkv L C x y) (.inr "rest") (.int z) = dkv L C z y := by first | rfl | simp [dkv, putK]
theorem dkv_putT {L C : Addr} {x y z : Int} : putK (dkv L C x y) (.inr "turn") (.int z) = dkv L C x z := by first | rfl | simp [dkv, putK]
section
variable {X : Cx} {P : Gl0} {g : G} {a b c e tg : Expr} {es : List Expr} {ta tb tc : TD} {tt uu : TB} {tl : TL} {pos p p2 p3 p4 p5 p6 p7 : Pos}
variable {E : Ex} {H0 H H1 H' : Hp} {ss : SS} {σ : St}
theorem draw_at {i : Nat} (hgp : gpD g.toB) (S : Stt P g E H0 ss σ H) (hi : ss[i]? = some (.v (.box 0))) : ∃ r L C cells, g.toB = drawB r L C cells ∧ σ[i]? = some (some (.ref r)) ∧ DrawIn r L C cells H := by
  obtain ⟨r, L, C, cells, e⟩ := hgp
  obtain ⟨v, h1, h2⟩ := S.val i _ hi
  have hb : g.bx = fun n a => n = 0 ∧ a = r := congrArg B.bx e
  have hin : g.inv = DrawIn r L C cells := congrArg B.inv e
  have hinv := S.sg.inv
  rw [hin] at hinv
  cases h2 with
  | box q =>
    rw [hb] at q
    obtain ⟨_, rfl⟩ := q
    exact ⟨_, L, C, cells, e, h1, hinv⟩
/-- an object of the draw changes -/
theorem Stt.drw {r L C q : Addr} {cells : List Int} {o u : HO} (e : g.toB = drawB r L C cells) (S : Stt P g E H0 ss σ H) (hq : q = r ∨ q = L ∨ q = C) (ho : H q = some o) (h1 : ∀ ps, o ≠ .tbl ps) (h2 : ∀ φ, o ≠ .ext φ) (nu : NT u) (inv : DrawIn r L C cells (upd H q u)) : Stt P g E H0 ss σ (upd H q u) ∧ Ext g.W H (upd H q u) := by
  have hW : g.W q := by
    have : g.W = fun a => a = r ∨ a = L ∨ a = C := congrArg B.W e
    rw [this]; exact hq
  have ex : Ext g.W H (upd H q u) := ⟨fun x v hx _ nw => by rw [upd_ne (fun z => nw (by rw [z]; exact hW))]; exact hx, fun x => gone_upd⟩
  have hin : g.inv (upd H q u) := by
    have : g.inv = DrawIn r L C cells := congrArg B.inv e
    rw [this]; exact inv
  refine ⟨S.ext ex ⟨tabs_mut S.sg.tabs ho h1 h2, hin, fun x rx => ?_⟩, ex⟩
  by_cases z : x = q
  · exact ⟨u, by rw [z, upd_same], nu⟩
  · obtain ⟨v, q1, n⟩ := S.sg.trk x rx
    exact ⟨v, by rw [upd_ne z]; exact q1, n⟩
theorem DrawIn.setR {r L C : Addr} {cells : List Int} {rest turn : Int} (h : DrawIn r L C cells H) : DrawIn r L C cells (upd H r (.dK (dkv L C rest turn))) :=
  ⟨h.rl, h.rc, h.lc, ⟨rest, turn, upd_same⟩, let ⟨x, e, z⟩ := h.l; ⟨x, by rw [upd_ne h.rl.symm]; exact e, z⟩, by rw [upd_ne h.rc.symm]; exact h.c.1, h.c.2⟩
theorem DrawIn.setL {r L C : Addr} {cells ls : List Int} (h : DrawIn r L C cells H) (hl : ls.length ≤ 100) : DrawIn r L C cells (upd H L (.lst (ls.map V.int))) :=
  ⟨h.rl, h.rc, h.lc, let ⟨x, y, e⟩ := h.d; ⟨x, y, by rw [upd_ne h.rl]; exact e⟩, ⟨ls, upd_same, hl⟩, by rw [upd_ne h.lc.symm]; exact h.c.1, h.c.2⟩
/-- draw[k], a number -/
def NumK (k : Str) : Prop := (∀ L C x y, ∃ z, valV (dkv L C x y) (.inr k) = some (.int z)) ∧ ∀ L C x y z, ∃ x' y', putK (dkv L C x y) (.inr k) (.int z) = dkv L C x' y'
theorem num_rest : NumK "rest" := ⟨fun L C x y => ⟨x, dkv_rest⟩, fun L C x y z => ⟨z, y, dkv_putR⟩⟩
theorem num_turn : NumK "turn" := ⟨fun L C x y => ⟨y, dkv_turn⟩, fun L C x y z => ⟨x, z, dkv_putT⟩⟩
def vBoxI (i : Nat) : TD := fun ss Q _ => ss[i]? = some (.v (.box 0)) ∧ ∀ z : Int, Q (.int z)
theorem d_boxI (i : Nat) {x k : Str} {j : Nat} (hgp : gpD g.toB) (hk : NumK k) (hu : X.A.units + 64 < cLine) (hN : X.N[i]? = some x := by rfl) (hv : Vis X.env.scope x := by first | exact Or.inl rfl | exact Or.inr (Or.inl rfl) | exact Or.inr (Or.inr rfl)) (hd : (x == ("__debug__" : Str)) = false := by decide) (hcd : (x == ("__classdict__" : Str)) = false := by decide)
    (hs : NoSl (.Constant (.str k) j p2) := by exact fun _ _ => rfl) : DE X P g (.Subscript (.Name x p) (.Constant (.str k) j p2) pos) (vBoxI i) :=
  DE.of (pe_dget (by omega) (pe_var hN hv hd hcd) pe_str hs) fun σ H E H0 ss Q Qx S T h => by
    obtain ⟨hi, hq⟩ := h
    obtain ⟨r, L, C, cells, e, h1, D⟩ := draw_at hgp S hi
    obtain ⟨x, y, hr⟩ := D.d
    obtain ⟨z, hz⟩ := hk.1 L C x y
    exact ⟨_, h1, r, .int z, rfl, by have := DGet.k (k := .inr k) hr; rw [hz] at this; exact this, _, S, Ext.refl _ _, .int, hq z⟩
/-- draw[k] = e -/
def vBoxS (i : Nat) (ta : TD) : TSt := fun N ss => ss[i]? = some (.v (.box 0)) ∧ ta ss (isIn fun _ => N.nx ss) N.ex
theorem s_boxS (i : Nat) {x k : Str} {j : Nat} (hgp : gpD g.toB) (hk : NumK k) (hu : X.A.units + 64 < cLine) (he : DE X P g e ta) (hN : X.N[i]? = some x := by rfl) (hv : Vis X.env.scope x := by first | exact Or.inl rfl | exact Or.inr (Or.inl rfl) | exact Or.inr (Or.inr rfl)) (hd : (x == ("__debug__" : Str)) = false := by decide) (hcd : (x == ("__classdict__" : Str)) = false := by decide)
    (hs : swapsWith e (some (.Subscript (.Name x p) (.Constant (.str k) j p2) p3)) pos.line X.env = pure false := by rfl) : DS X P g (.Assign [.Subscript (.Name x p) (.Constant (.str k) j p2) p3] e pos) (vBoxS i ta) :=
  DS.of (ps_dput (by omega) (pe_var hN hv hd hcd) pe_str he.pe hs) fun σ H E H0 ss N S T h => by
    obtain ⟨hi, ht⟩ := h
    refine upE.run S T ht fun v H1 d S1 e1 n1 q1 => ?_
    obtain ⟨z, rfl, q1⟩ := q1.ok
    cases n1
    obtain ⟨r, L, C, cells, e, h1, D⟩ := draw_at hgp S1 hi
    obtain ⟨x, y, hr⟩ := D.d
    obtain ⟨x', y', hp⟩ := hk.2 L C x y z
    refine ⟨_, h1, r, upd H1 r (.dK (dkv L C x' y')), rfl, by have := DPut.k (k := .inr k) (v := .int z) hr (show 4 < sizeLine from by decide); rw [hp] at this; exact this, ?_⟩
    exact ⟨ss, (S1.drw e (.inl rfl) hr (fun _ z => by cases z) (fun _ z => by cases z) NT.dK D.setR).1, q1⟩
/-- for x in draw["cells"] -/
def vCells (i : Nat) : TL := fun ss Q _ => ss[i]? = some (.v (.box 0)) ∧ ∀ ns : List Int, ns.length ≤ 100 → Q (ns.map D.int)
theorem i_cells (i : Nat) {x : Str} {j : Nat} (hgp : gpD g.toB) (hu : X.A.units + 64 < cLine) (hN : X.N[i]? = some x := by rfl) (hv : Vis X.env.scope x := by first | exact Or.inl rfl | exact Or.inr (Or.inl rfl) | exact Or.inr (Or.inr rfl)) (hd : (x == ("__debug__" : Str)) = false := by decide) (hcd : (x == ("__classdict__" : Str)) = false := by decide)
    (hs : NoSl (.Constant (.str "cells") j p2) := by exact fun _ _ => rfl) : DI X P g tg (.Subscript (.Name x p) (.Constant (.str "cells") j p2) pos) (vCells i) :=
  ⟨_, pi_sq (pe_dget (by omega) (pe_var hN hv hd hcd) pe_str hs), fun σ H E H0 ss Q Qx R S T h k => by
    obtain ⟨hi, hq⟩ := h
    obtain ⟨r, L, C, cells, e, h1, DI0⟩ := draw_at hgp S hi
    obtain ⟨x, y, hr⟩ := DI0.d
    have hin : g.inv = DrawIn r L C cells := congrArg B.inv e
    refine ⟨_, h1, r, .ref C, rfl, by have := DGet.k (k := .inr "cells") hr; rw [dkv_cells] at this; exact this, C, rfl, .inl ⟨⟨_, SqL.of DI0.c.1⟩, ?_⟩⟩
    refine k (Itl X.K C) H (cells.map (fun z : Int => D.int z)) (fun _ _ => True) S (Ext.refl _ _) ?_ trivial (hq cells DI0.c.2)
    refine ⟨fun _ _ _ _ _ _ => trivial, fun i H R hv _ hi => ?_, fun i H R x H' d hv _ _ hd hy => ?_, fun i H R hv _ e => ?_⟩
    · rw [hin] at hv
      rw [List.length_map] at hi
      exact ⟨_, V.int cells[i], SqL.of hv.c.1, by rw [List.getElem?_map, List.getElem?_eq_getElem hi]; rfl⟩
    · rw [hin] at hv
      obtain ⟨rfl, hy⟩ := hy
      have := hy _ (SqL.of hv.c.1)
      rw [List.getElem?_map] at hd this
      obtain ⟨n, e1, rfl⟩ := Option.map_eq_some_iff.mp hd
      rw [e1] at this
      cases this
      exact ⟨fun _ _ z => z, .int⟩
    · rw [hin] at hv
      exact ⟨_, SqL.of hv.c.1, by rw [List.length_map]; rw [List.length_map] at e; omega⟩⟩
/-- draw["large"].pop(0) if draw["large"] != [] else e -/
def vPopOr (i : Nat) (ta : TD) : TD := fun ss Q Qx => ss[i]? = some (.v (.box 0)) ∧ (∀ z : Int, Q (.int z)) ∧ ta ss Q Qx
theorem dpAll_ints {K : PySem.W.Frag} : ∀ ls : List Int, DpAll K H (ls.map V.int) (ls.map PyData.int)
  | [] => .nil
  | i :: ls => .cons (.int i) (dpAll_ints ls)
theorem lay_ints : ∀ ls : List Int, PyData.canLayAll0 (ls.map PyData.int) = true
  | [] => rfl
  | i :: ls => by
    simp only [List.map_cons, PyData.canLayAll0, PyData.canLay0, lay_ints ls]
    rfl
theorem dep_ints : ∀ ls : List Int, PyData.depthAll (ls.map PyData.int) = 0
  | [] => rfl
  | i :: ls => by
    simp only [List.map_cons, PyData.depthAll, PyData.depth, dep_ints ls]
    rfl
theorem shaped_ints (ls : List Int) : SeqAt.shaped (.list (ls.map PyData.int)) = true := by
  unfold SeqAt.shaped
  simp only [PyData.canLay0, PyData.depth, lay_ints, dep_ints]
  rfl
theorem d_popOr (i : Nat) {x : Str} {j j2 j3 : Nat} {q1 q2 q3 q4 q5 q6 q7 q8 q9 : Pos} (hgp : gpD g.toB) (hu : X.A.units + 64 < cLine) (he : DE X P g e ta) (hN : X.N[i]? = some x := by rfl) (hv : Vis X.env.scope x := by first | exact Or.inl rfl | exact Or.inr (Or.inl rfl) | exact Or.inr (Or.inr rfl)) (hd : (x == ("__debug__" : Str)) = false := by decide) (hcd : (x == ("__classdict__" : Str)) = false := by decide)
    (hs : NoSl (.Constant (.str "large") j p2) := by exact fun _ _ => rfl) (hs2 : NoSl (.Constant (.str "large") j2 p3) := by exact fun _ _ => rfl)
    (hpop : ∀ to ta', PE X (.Subscript (.Name x q4) (.Constant (.str "large") j2 p3) q5) to → PE X (.Constant (.int 0) j3 q6) ta' → PE X (.Call (.Attribute (.Subscript (.Name x q4) (.Constant (.str "large") j2 p3) q5) "pop" q7) [.Constant (.int 0) j3 q6] [] q8) (tBM X.K "list" rPopAt to (tCons ta' tNil)) := by exact fun _ _ h1 h2 => pe_bm PySem.F.plainAttrs_list PySem.F.slot_list_pop PySem.F.type_list_pop mt_popAt h1 (pa_cons h2 pa_nil)) :
    DE X P g (.IfExp (.Compare (.Subscript (.Name x p) (.Constant (.str "large") j p2) q1) [.NotEq] [.List [] q2] q3) (.Call (.Attribute (.Subscript (.Name x q4) (.Constant (.str "large") j2 p3) q5) "pop" q7) [.Constant (.int 0) j3 q6] [] q8) e q9) (vPopOr i ta) := by
  have g1 := pe_dget (pos := q1) (by omega) (pe_var (X := X) (pos := p) hN hv hd hcd) (pe_str (x := "large") (j := j) (pos := p2)) hs
  have g2 := pe_dget (pos := q5) (by omega) (pe_var (X := X) (pos := q4) hN hv hd hcd) (pe_str (x := "large") (j := j2) (pos := p3)) hs2
  refine DE.of (pe_ifExp (pt_cmpR (op_neD hu) g1 (pe_lst pa_nil) rfl) (hpop _ _ g2 pe_int) he.pe) fun σ H E H0 ss Q Qx S T h => ?_
  obtain ⟨hi, hq, ht⟩ := h
  obtain ⟨r, L, C, cells, e, h1, D⟩ := draw_at hgp S hi
  obtain ⟨x, y, hr⟩ := D.d
  obtain ⟨ls, hl, hlen⟩ := D.l
  refine ⟨_, h1, r, .ref L, rfl, by have := DGet.k (k := .inr "large") hr; rw [dkv_large] at this; exact this, Nat.zero_le _, fun q hq0 => ?_⟩
  have S2 : Stt P g E H0 ss σ (upd H q (.lst [])) := S.new hq0
  have e2 : Ext g.W H (upd H q (.lst [])) := Ext.new hq0
  have kp := same_new (o := .lst []) hq0
  refine ⟨.list (ls.map PyData.int), .list [], .lst (SqL.of (kp _ _ hl)) (dpAll_ints ls), .lst (SqL.of upd_same) .nil, shaped_ints ls, by rfl, _, rfl, ?_⟩
  cases ls with
  | nil => exact iteF (upE.run S2 T ht fun v H' d' S' e' n' q' => ⟨d', S', e2.trans e', n', q'⟩)
  | cons z ls =>
    refine iteT ?_
    have D2 := DrawIn.mk D.rl D.rc D.lc ⟨x, y, kp _ _ hr⟩ ⟨z :: ls, kp _ _ hl, hlen⟩ ⟨kp _ _ D.c.1, D.c.2⟩
    refine ⟨_, h1, r, .ref L, rfl, by have := DGet.k (k := .inr "large") (kp _ _ hr); rw [dkv_large] at this; exact this, .inl ⟨rfl, _, SqL.of (kp _ _ hl)⟩, ?_⟩
    have hx : (List.map V.int (z :: ls)).eraseIdx 0 = ls.map V.int := rfl
    refine ⟨L, _, 0, 0, .int z, rfl, rfl, kp _ _ hl, by decide, by decide, by simp [seqIndex?], rfl, ?_⟩
    rw [hx]
    obtain ⟨S3, e3⟩ := S2.drw (u := .lst (ls.map V.int)) e (.inr (.inl rfl)) (kp _ _ hl) (fun _ z => by cases z) (fun _ z => by cases z) NT.lst (D2.setL (by rw [List.length_cons] at hlen; omega))
    exact ⟨_, S3, e2.trans e3, .int, hq z⟩
end
end DL

set_option maxRecDepth 100000
set_option maxHeartbeats 4000000
namespace DL
open PySem PySem.Spec PyProof.Rows L2 LamX NdefX DLX

/-! ### the script, where the draw is begun -/
def scrB (K : PySem.W.Frag) (a : Addr) (ns : List Int) (c : Prop) : B where
  W := fun x => x = a ∧ c
  inv := fun H => SqL K H a (ns.map V.int) ∧ (c ∨ ∀ H', SqL K H' a (ns.map V.int))
  bx := fun n x => n = 7 ∧ x = a
  hinv := fun H H' k h => by
    obtain ⟨h1, h2⟩ := h
    rcases h2 with h2 | h2
    · refine ⟨?_, .inl h2⟩
      rcases h1 with (h1 | ⟨o, h1⟩) | h1
      · exact .inl (.inl (k _ _ ⟨rfl, h2⟩ h1))
      · exact .inl (.inr ⟨o, k _ _ ⟨rfl, h2⟩ h1⟩)
      · exact .inr h1
    · exact ⟨h2 H', .inr h2⟩
def gpS (K : PySem.W.Frag) (b : B) : Prop := ∃ a ns c, ns.length ≤ 63 ∧ b = scrB K a ns c
def vScr (i : Nat) : TL := fun ss Q _ => ss[i]? = some (.v (.box 7)) ∧ ∀ ns : List Int, ns.length ≤ 63 → Q (ns.map fun z : Int => D.int z)
section
variable {X : Cx} {P : Gl0} {g : G} {tg : Expr} {pos p : Pos} {E : Ex} {H0 H : Hp} {ss : SS} {σ : St}
theorem i_scr (i : Nat) {x : Str} (hgp : gpS X.K g.toB) (hN : X.N[i]? = some x := by rfl) (hv : Vis X.env.scope x := by first | exact Or.inl rfl | exact Or.inr (Or.inl rfl) | exact Or.inr (Or.inr rfl)) (hd : (x == ("__debug__" : Str)) = false := by decide) (hcd : (x == ("__classdict__" : Str)) = false := by decide) :
    DI X P g tg (.Name x p) (vScr i) :=
  ⟨_, pi_sq (pe_var hN hv hd hcd), fun σ H E H0 ss Q Qx R S T h k => by
    obtain ⟨hi, hq⟩ := h
    obtain ⟨a, ns, c, hl, e⟩ := hgp
    have hb : g.bx = fun n x => n = 7 ∧ x = a := congrArg B.bx e
    have hin : g.inv = fun H => SqL X.K H a (ns.map V.int) ∧ (c ∨ ∀ H', SqL X.K H' a (ns.map V.int)) := congrArg B.inv e
    obtain ⟨v, h1, h2⟩ := S.val i _ hi
    have hv := S.sg.inv
    rw [hin] at hv
    cases h2 with
    | box q =>
      rw [hb] at q
      obtain ⟨_, rfl⟩ := q
      refine ⟨_, h1, _, rfl, .inl ⟨⟨_, hv.1⟩, ?_⟩⟩
      refine k (Itl X.K _) H (ns.map fun z : Int => D.int z) (fun _ _ => True) S (Ext.refl _ _) ?_ trivial (hq ns hl)
      refine ⟨fun _ _ _ _ _ _ => trivial, fun i H R hv _ hi => ?_, fun i H R x H' d hv _ _ hd hy => ?_, fun i H R hv _ e => ?_⟩
      · rw [hin] at hv
        rw [List.length_map] at hi
        exact ⟨_, V.int ns[i], hv.1, by rw [List.getElem?_map, List.getElem?_eq_getElem hi]; rfl⟩
      · rw [hin] at hv
        obtain ⟨rfl, hy⟩ := hy
        have := hy _ hv.1
        rw [List.getElem?_map] at hd this
        obtain ⟨n, e1, rfl⟩ := Option.map_eq_some_iff.mp hd
        rw [e1] at this
        cases this
        exact ⟨fun _ _ z => z, .int⟩
      · rw [hin] at hv
        exact ⟨_, hv.1, by rw [List.length_map]; rw [List.length_map] at e; omega⟩⟩
end
/-- the draw, begun -/
structure Begun (P : Gl0) (H H' : Hp) (r L C : Addr) (cells : List Int) : Prop where
  gone : ∀ b, H' b = none → H b = none
  fr : H r = none
  fL : H L = none
  fC : H C = none
  inv : DrawIn r L C cells H'
  tabs : TabsN P.T H'
def spBegun (K : PySem.W.Frag) (P : Gl0) : Sp := fun vs H Q E => ∃ (a : Addr) (ns : List Int), vs = [.ref a] ∧ SqL K H a (ns.map V.int) ∧ ns.length ≤ 63 ∧ TabsN P.T H ∧ ∀ r L C cells H', Begun P H H' r L C cells → Q (.ref r) H'
def upN (P : Gl0) (gp : B → Prop) (tl : TL) : TE := fun σ H K => ∃ g : G, gp g.toB ∧ ∃ E H0 ss Q, Stt P g E H0 ss σ H ∧ tl ss Q noX ∧ ∀ H1 p vs l, Stt P g E H0 ss σ H1 → Ext g.W H H1 → H1 p = none → DenL P g (Rg g E σ ss) H1 vs l → Q l → K (.ref p) (upd H1 p (.lst vs))
theorem pe_upN {X : Cx} {P : Gl0} {gp : B → Prop} {e : Expr} {tl : TL} (h : ∀ g : G, gp g.toB → DN X P g e tl) : PE X e (upN P gp tl) := by
  refine ⟨fun pins s σ H Q I ⟨g, hg, E, H0, ss, Qd, S, ht, k⟩ => ?_⟩
  obtain ⟨te, h1, h2⟩ := (h g hg).ex
  exact h1.run pins s σ H Q I (h2 σ H E H0 ss Qd noX Q S .no ht k)
theorem ps_upN {X : Cx} {P : Gl0} {gp : B → Prop} {st : Stmt} {i : Nat} {tl : TL} (h : ∀ g : G, gp g.toB → DNA X P g st i tl) : PS X st (tAsg (upN P gp tl) (gName i)) := by
  refine ⟨fun pins s σ H D I ⟨g, hg, E, H0, ss, Qd, S, ht, k⟩ => ?_⟩
  obtain ⟨te, h1, h2⟩ := (h g hg).ex
  exact h1.run pins s σ H D I (h2 σ H E H0 ss Qd noX _ S .no ht k)
/-- its two lists, by their rules -/
theorem begun_read {K : PySem.W.Frag} {P : Gl0} {t1 t2 : TE} {a : Addr} {ns : List Int} {H : Hp} {Q : VK} {tl1 tl2 : TL} (hS : SqL K H a (ns.map V.int)) (hlen : ns.length ≤ 63) (hT : TabsN P.T H)
    (h1 : ∀ g, gpS K g.toB → ∀ (σ : St) (H : Hp) (E : Ex) (H0 : Hp) (ss : SS) (Q : List D → Prop) (Kv : VK), Stt P g E H0 ss σ H → tl1 ss Q noX → (∀ H1 p vs l, Stt P g E H0 ss σ H1 → Ext g.W H H1 → H1 p = none → DenL P g (Rg g E σ ss) H1 vs l → Q l → Kv (.ref p) (upd H1 p (.lst vs))) → t1 σ H Kv)
    (h2 : ∀ g, gpS K g.toB → ∀ (σ : St) (H : Hp) (E : Ex) (H0 : Hp) (ss : SS) (Q : List D → Prop) (Kv : VK), Stt P g E H0 ss σ H → tl2 ss Q noX → (∀ H1 p vs l, Stt P g E H0 ss σ H1 → Ext g.W H H1 → H1 p = none → DenL P g (Rg g E σ ss) H1 vs l → Q l → Kv (.ref p) (upd H1 p (.lst vs))) → t2 σ H Kv)
    (r1 : ∀ ss : SS, ss = [.v (.box 7), .u, .u] → tl1 ss (fun l => ∃ ls : List Int, l = ls.map (fun z : Int => D.int z) ∧ ls.length ≤ 100) noX) (r2 : ∀ ss : SS, ss = [.v (.box 7), .u, .u] → tl2 ss (fun l => ∃ ls : List Int, l = ls.map (fun z : Int => D.int z) ∧ ls.length ≤ 100) noX)
    (k : ∀ r L C cells H', Begun P H H' r L C cells → Q (.ref r) H') :
    t1 [some (.ref a), none, none] H (fun v H1 => tDisp [(tC (.str "large"), tVar 2), (tC (.str "rest"), tC (.int 0)), (tC (.str "cells"), t2), (tC (.str "turn"), tC (.int 0))] [some (.ref a), none, some v] H1 Q) := by
  obtain ⟨c, hc1, hc2⟩ : ∃ c : Prop, (c ∨ ∀ H', SqL K H' a (ns.map V.int)) ∧ (c → ∃ o, H a = some o ∧ NT o) := by
    rcases hS with (h | ⟨o, h⟩) | h
    · exact ⟨True, .inl trivial, fun _ => ⟨_, h, NT.lst⟩⟩
    · exact ⟨True, .inl trivial, fun _ => ⟨_, h, NT.frz⟩⟩
    · exact ⟨False, .inr fun H' => .inr h, fun z => z.elim⟩
  obtain ⟨g, hg⟩ : ∃ g : G, g = { toB := scrB K a ns c, M := fun x => x = a ∧ c, hW := fun x h => h } := ⟨_, rfl⟩
  have hgp : gpS K g.toB := ⟨a, ns, c, hlen, by rw [hg]⟩
  have hM : g.M = fun x => x = a ∧ c := by rw [hg]
  have hW : g.W = fun x => x = a ∧ c := by rw [hg]; rfl
  have hin : g.inv = fun H => SqL K H a (ns.map V.int) ∧ (c ∨ ∀ H', SqL K H' a (ns.map V.int)) := by rw [hg]; rfl
  have hb : g.bx = fun n x => n = 7 ∧ x = a := by rw [hg]; rfl
  have sg : SG P g g.M H := ⟨hT, by rw [hin]; exact ⟨hS, hc1⟩, fun x hx => by
    rw [hM] at hx
    obtain ⟨rfl, q⟩ := hx
    exact hc2 q⟩
  have S0 : Stt P g E00 H (startS ["script", "grain", "large"] [.box 7]) (L2.start ["script", "grain", "large"] [.ref a]) H := stt_start sg (.cons (.box (by rw [hb]; exact ⟨rfl, rfl⟩)) .nil)
  refine h1 g hgp _ H E00 H _ _ _ S0 (r1 _ rfl) fun H1 L vs l S1 e1 hL nl ⟨ls, el, hls⟩ => ?_
  subst el
  have ev := nl.ints
  subst ev
  intro r hr
  have S2 : Stt P g E00 H [.v (.box 7), .u, .u] [some (.ref a), none, some (.ref L)] (upd H1 L (.lst (ls.map V.int))) := (S1.new hL).wipe1 2
  have S3 := S2.new (o := .dK []) hr
  refine ⟨_, rfl, ?_⟩
  refine h2 g hgp _ _ E00 H _ _ _ S3 (r2 _ rfl) fun H4 C vs l S4 e4 hC nl ⟨cs, el, hcs⟩ => ?_
  subst el
  have ev := nl.ints
  subst ev
  have nt : ∀ {x : Addr}, ¬ Rg g E00 [some (.ref a), none, some (V.ref L)] [.v (.box 7), .u, .u] x → ¬ g.W x := fun n w => n (Rg.W w)
  have rL : r ≠ L := fun z => by rw [z, upd_same] at hr; cases hr
  have hr1 : H1 r = none := by rw [upd_ne rL] at hr; exact hr
  have wr : ¬ g.W r := nt (S2.fresh hr)
  have wL : ¬ g.W L := fun w => S1.fresh hL (Rg.W w)
  have hr4 : H4 r = some (.dK []) := e4.keep r _ upd_same NT.dK wr
  have hL4 : H4 L = some (.lst (ls.map V.int)) := e4.keep L _ (by rw [upd_ne rL.symm, upd_same]) NT.lst wL
  have rC : r ≠ C := fun z => by rw [z, hC] at hr4; cases hr4
  have LC : L ≠ C := fun z => by rw [z, hC] at hL4; cases hL4
  refine ⟨by rw [upd_ne rC]; exact hr4, dkv L C 0 0, rfl, show 4 ≤ 15 from by decide, ?_⟩
  have em : mergeK [] (dkv L C 0 0) = dkv L C 0 0 := (merge_nd (kvs := []) (more := dkv L C 0 0) (by show [Sum.inr (("large" : Str)), Sum.inr ("rest" : Str), Sum.inr ("cells" : Str), Sum.inr ("turn" : Str)].Nodup; decide)).trans (List.nil_append _)
  rw [em]
  have e3 : Ext g.W H (upd (upd H1 L (.lst (ls.map V.int))) r (.dK [])) := (e1.trans (Ext.new hL)).trans (Ext.new hr)
  have e5 : Ext g.W H (upd H4 C (.lst (cs.map V.int))) := (e3.trans e4).trans (Ext.new hC)
  have hr0 : H r = none := e1.gone r hr1
  have e6 : Ext g.W H (upd (upd H4 C (.lst (cs.map V.int))) r (.dK (dkv L C 0 0))) := e5.mut hr0
  refine k r L C cs _ ⟨fun b z => e6.gone b z, hr0, e1.gone L hL, (e3.trans e4).gone C hC, ⟨rL, rC, LC, ⟨0, 0, upd_same⟩, ⟨ls, by rw [upd_ne rL.symm, upd_ne LC]; exact hL4, hls⟩, by rw [upd_ne rC.symm, upd_same], hcs⟩, ?_⟩
  exact tabs_mut (S4.new (o := .lst (cs.map V.int)) hC).sg.tabs (by rw [upd_ne rC]; exact hr4) (fun _ z => by cases z) (fun _ z => by cases z)
end DL

set_option maxRecDepth 100000
set_option maxHeartbeats 4000000
namespace DL
open PySem PySem.Spec PyProof.Rows L2 LamX NdefX DLX

/-! ### a law's defs, by their names -/
structure FD (Pr : Program) (w : World) (K : PySem.W.Frag) (mg : Str → Option Value) (base : Heap) (x : Str) (k : Nat) (ps : List Str) (sp : Sp) : Prop where
  ex : ∃ (f : Addr) (fd : FuncData), mg x = some (.ref f) ∧ PySem.W.keepIn K (.ref f) = true ∧ Binds K fd ps [] ∧ FnG Pr w K mg base (L2.CX Pr w) k f fd ps sp
section
variable {X : Cx} {P : Gl0} {g : G} {e : Expr} {es : List Expr} {ta : TD} {tl : TL} {pos p : Pos} {E : Ex} {H0 H : Hp} {ss : SS} {σ : St} {k n : Nat} {ps : List Str} {x : Str}
theorem d_callF {gp : B → Prop} {c : Ctr} (F : FD X.prog X.w X.K X.mg X.base x k ps (spD P gp n c)) (hr : Room k X.A) (hgd : X.A.guards = some []) (hg : Gl X x) (hgp : gp g.toB) (ha : DA X P g (e :: es) tl) (hdb : (x == ("__debug__" : Str)) = false := by decide)
    (he : starEach (e :: es) X.env = (false, eval e X.env) :: starEach es X.env := by rfl) (hpl : (backTo pos (starEach es X.env)).any (·.1) = false := by rfl) : DE X P g (.Call (.Name x p) (e :: es) [] pos) (vCall n c tl) := by
  obtain ⟨f, fd, hm, hk, hb, F⟩ := F.ex
  exact d_call F hr hgd hg hm hk hb hgp ha hdb he hpl
/-- the layer's rule, for a def that raises nothing -/
theorem pe_callF {sp : Sp} {t : TA} (F : FD X.prog X.w X.K X.mg X.base x k ps sp) (hr : Room k X.A) (hgd : X.A.guards = some []) (hg : Gl X x) (ha : PA X (e :: es) t) (hdb : (x == ("__debug__" : Str)) = false := by decide)
    (he : starEach (e :: es) X.env = (false, eval e X.env) :: starEach es X.env := by rfl) (hpl : (backTo pos (starEach es X.env)).any (·.1) = false := by rfl) : PE X (.Call (.Name x p) (e :: es) [] pos) (fun σ H Q => t σ H fun vs H1 => sp vs H1 Q fun _ _ _ => False) := by
  obtain ⟨f, fd, hm, hk, hb, F⟩ := F.ex
  refine ⟨fun pins s σ H Q I h => ?_⟩
  refine wpAny_Call_Name_kw (ld_glob I hg hm ?_ hdb)
  refine PySem.W.callWith_K (h₀ := X.base) I.ok.mod.kin hk (thn (ha.run pos pins s σ H _ I h) fun us s1 ⟨vs, H1, I1, r, q⟩ => ⟨I1.kIn, ?_⟩) he hpl
  refine run_fnG (σ := σ) F hr hgd hb (fun pins H s e s' I c => ?_) I1 r q
  obtain ⟨_, _, _, _, _, _, _, _, _, _, _, _, z⟩ := c
  exact z.elim
/-- from here on: over the draw -/
theorem pss_box {sts : List Stmt} {t : TSt} (h : ∀ g : G, gpD g.toB → DSs X P g sts t) : PSs X sts (fun D σ H => ∃ g : G, gpD g.toB ∧ upS X P g t D σ H) := ⟨fun pins s σ H D I ⟨g, hg, q⟩ => (h g hg).pss.run pins s σ H D I q⟩
def drawG (r L C : Addr) (cells : List Int) : G := { toB := drawB r L C cells, M := fun a => a = r ∨ a = L ∨ a = C, hW := fun _ h => h }
theorem stt_draw {r L C : Addr} {cells : List Int} {v0 : Option V} {N : Nat} (Dr : DrawIn r L C cells H) (hT : TabsN P.T H) : Stt P (drawG r L C cells) E00 H (.u :: .v (.box 0) :: List.replicate N .u) (v0 :: some (.ref r) :: List.replicate N none) H := by
  have no : ∀ {i : Nat} {d : D}, ((Sl.u :: .v (.box 0) :: List.replicate N .u : SS))[i]? = some (.own d) → False := fun {i d} h => by
    have hm := List.mem_of_getElem? h
    rcases List.mem_cons.mp hm with z | hm
    · cases z
    · rcases List.mem_cons.mp hm with z | hm
      · cases z
      · cases (List.mem_replicate.mp hm).2
  have rg : ∀ x, Rg (drawG r L C cells) E00 (v0 :: some (.ref r) :: List.replicate N none) (.u :: .v (.box 0) :: List.replicate N .u) x → x = r ∨ x = L ∨ x = C := fun x h => by
    rcases h with h | h | ⟨i, d, h, _⟩
    · exact h
    · exact h.elim
    · exact (no h).elim
  refine ⟨⟨hT, Dr, fun x h => ?_⟩, trivial, Ext.refl _ _, by simp, fun i d h => ?_, fun i d h => (no h).elim, fun i j d e a h => (no h).elim⟩
  · obtain ⟨x1, y1, e1⟩ := Dr.d
    obtain ⟨l1, e2, _⟩ := Dr.l
    rcases rg x h with z | z | z
    · exact ⟨_, by rw [z]; exact e1, NT.dK⟩
    · exact ⟨_, by rw [z]; exact e2, NT.lst⟩
    · exact ⟨_, by rw [z]; exact Dr.c.1, NT.lst⟩
  · match i with
    | 0 => cases h
    | 1 =>
      cases h
      exact ⟨_, rfl, .box ⟨rfl, rfl⟩⟩
    | i + 2 =>
      have h' : (List.replicate N Sl.u)[i]? = some (.v d) := h
      cases (List.mem_replicate.mp (List.mem_of_getElem? h')).2
end
theorem hu65 {k : Nat} {A : Around} (hr : Room k A) : A.units + 65 < cLine := by have := hr.un; omega
/-- the script, as the law has it -/
def spLaw (K : PySem.W.Frag) (P : Gl0) : Sp := fun vs H Q E => ∃ (a : Addr) (ns : List Int), vs = [.ref a] ∧ SqL K H a (ns.map V.int) ∧ ns.length ≤ 63 ∧ TabsN P.T H ∧ ∀ H', Q (.bl true) H'
/-- what the law must bring about -/
def lawN : DEnds := { nx := fun _ => False, rt := fun d => d = .bl true, ex := fun _ _ => False }
theorem law_read {X : Cx} {P : Gl0} {t : TSt} {σ : St} {r L C : Addr} {cells : List Int} {H : Hp} {Q : VK} {N : Nat} {v0 : Option V} (Dr : DrawIn r L C cells H) (hT : TabsN P.T H) (hs : σ = v0 :: some (.ref r) :: List.replicate N none)
    (h : t lawN (.u :: .v (.box 0) :: List.replicate N .u)) (k : ∀ H', Q (.bl true) H') : ∃ g : G, gpD g.toB ∧ upS X P g t { nx := fun _ H' => Q .non H', rt := Q } σ H := by
  subst hs
  refine ⟨drawG r L C cells, ⟨r, L, C, cells, rfl⟩, E00, H, _, lawN, stt_draw Dr hT, .inl fun _ _ z => z, h, fun σ' H' ⟨_, _, z⟩ => z.elim, fun σ' H' ⟨_, _, z⟩ => z.elim, fun σ' H' ⟨_, _, z⟩ => z.elim, fun v H' ⟨d, σ, ss, _, n, z⟩ => ?_⟩
  have z : d = .bl true := z
  subst z
  cases n
  exact k H'
/-! ### own exception classes, their kinship -/
def mroL (CB C : Addr) : List Value := if C = CB then [.ref CB, .type "ValueError", .type "Exception", .type "BaseException", .type "object"] else [.ref C, .ref CB, .type "ValueError", .type "Exception", .type "BaseException", .type "object"]
def excKB (K : PySem.W.Frag) (CB C : Addr) : Bool := xfB K C && (decide (PySem.W.findIn K (.ref C) "__class__" = some (some (.builtin "object.__class__"))) && (decide (PySem.W.typeIn K (.ref C) = some (.type "type")) && decide ((PySem.W.clsIn K C).map (·.mro) = some (mroL CB C))))
structure ExcK (K : PySem.W.Frag) (CB C : Addr) : Prop where
  xf : XfC K C
  cl : PySem.W.findIn K (.ref C) "__class__" = some (some (.builtin "object.__class__"))
  ty : PySem.W.typeIn K (.ref C) = some (.type "type")
  mro : ∃ cd, PySem.W.clsIn K C = some cd ∧ cd.mro = mroL CB C
theorem excKB_ok {K : PySem.W.Frag} {CB C : Addr} (h : excKB K CB C = true) : ExcK K CB C := by
  unfold excKB at h
  simp only [Bool.and_eq_true, decide_eq_true_eq] at h
  obtain ⟨h1, h2, h3, h4⟩ := h
  obtain ⟨cd, h5, h6⟩ := Option.map_eq_some_iff.mp h4
  exact ⟨xfB_ok h1, h2, h3, cd, h5, h6⟩
section
variable {K : PySem.W.Frag} {CB a b : Addr}
theorem ExcK.mroIn (h : ExcK K CB a) (v : Value) : PySem.W.mroIn K a v = some ((mroL CB a).contains v) := by
  obtain ⟨cd, h1, h2⟩ := h.mro
  unfold PySem.W.mroIn
  rw [h1, Option.bind_some, h2, if_neg]
  unfold mroL
  split <;> simp
theorem ExcK.exc (h : ExcK K CB a) (og : PySem.W.specialIn K (.builtin "object.__class__") "__get__" = some (some (.builtin "getset_descriptor.__get__"))) (ot : PySem.W.takesIn K (.builtin "object.__class__") = some true) : ExcC K a :=
  ⟨h.xf.ga, h.xf.gg, h.xf.exC, h.xf.hdC, h.cl, og, ot, by rw [h.mroIn]; unfold mroL; split <;> simp⟩
theorem isa_cc (ha : ExcK K CB a) (hb : ExcK K CB b) (hne : b ≠ CB) : PySem.W.kitOne K (.ref a) (.ref b) = some (decide (a = b)) := by
  unfold PySem.W.kitOne
  by_cases e : a = b
  · subst e
    rw [if_pos (by simp)]
    simp
  · rw [if_neg (by simpa using e)]
    unfold PySem.W.kitCls
    dsimp only
    obtain ⟨cd, h1, _⟩ := hb.mro
    rw [if_pos (by rw [h1, hb.ty]; rfl)]
    show PySem.W.mroIn K a (.ref b) = _
    rw [ha.mroIn]
    unfold mroL
    have e' : ¬ b = a := fun z => e z.symm
    split <;> simp [e, e', hne]
theorem isa_cB (ha : ExcK K CB a) (hb : ExcK K CB CB) : PySem.W.kitOne K (.ref a) (.ref CB) = some true := by
  unfold PySem.W.kitOne
  by_cases e : a = CB
  · subst e
    rw [if_pos (by simp)]
  · rw [if_neg (by simpa using e)]
    unfold PySem.W.kitCls
    dsimp only
    obtain ⟨cd, h1, _⟩ := hb.mro
    rw [if_pos (by rw [h1, hb.ty]; rfl)]
    show PySem.W.mroIn K a (.ref CB) = _
    rw [ha.mroIn]
    unfold mroL
    split <;> simp
theorem isa_cV (ha : ExcK K CB a) : PySem.W.kitOne K (.ref a) (.type "ValueError") = some true := by
  unfold PySem.W.kitOne
  rw [if_neg (by simp)]
  unfold PySem.W.kitCls
  dsimp only
  rw [if_pos (by decide +kernel)]
  show PySem.W.mroIn K a (.type "ValueError") = _
  rw [ha.mroIn]
  unfold mroL
  split <;> simp
end
end DL

set_option maxRecDepth 100000
set_option maxHeartbeats 4000000
namespace DL
open PySem PySem.Spec PyProof.Rows L2 LamX NdefX DLX

section
variable {X : Cx} {P : Gl0} {g : G}
theorem OpD.imp {f : Value → Value → Sem Value} {r r' : RD} (h : OpD X P g f r) (i : ∀ x y Q, r' x y Q → r x y Q) : OpD X P g f r' := by
  obtain ⟨hr, h1, h2⟩ := h
  exact ⟨hr, h1, fun σ H E H0 ss x y dx dy Q K S nx ny q k => h2 σ H E H0 ss x y dx dy Q K S nx ny (i dx dy Q q) k⟩
/-- ==, ints and bools in short -/
def rEqS : RD := fun x y Q => match x, y with
  | .int i, .int j => Q (.bl (decide (i = j)))
  | .bl a, .bl b => Q (.bl (a == b))
  | x, y => rEq x y Q
def rNeS : RD := fun x y Q => match x, y with
  | .int i, .int j => Q (.bl (!decide (i = j)))
  | .bl a, .bl b => Q (.bl (!(a == b)))
  | x, y => rNe x y Q
theorem o_eqS (hu : X.A.units + 64 < cLine) : OpD X P g (compareOp .Eq) rEqS := (o_eq hu).imp fun x y Q h => by
  unfold rEqS at h
  split at h
  · exact ⟨rfl, rfl, h⟩
  · exact ⟨rfl, rfl, h⟩
  · exact h
theorem o_neS (hu : X.A.units + 64 < cLine) : OpD X P g (compareOp .NotEq) rNeS := (o_ne hu).imp fun x y Q h => by
  unfold rNeS at h
  split at h
  · exact ⟨rfl, rfl, h⟩
  · exact ⟨rfl, rfl, h⟩
  · exact h
end
section
variable {X : Cx} {P : Gl0} {g : G}
theorem s_append (i : Nat) {x : Str} {e : Expr} {ta : TD} {p1 p2 p3 p4 : Pos} (he : DE X P g e ta)
    (hp : ∀ te, PE X e te → PS X (.Expr (.Call (.Attribute (.Name x p1) "append" p2) [e] [] p3) p4) (tDrop (tBM X.K "list" L2.rAppend (tVar i) (tCons te tNil))) := by exact fun te ht => ps_expr (pe_bm PySem.F.plainAttrs_list PySem.F.slot_list_append PySem.F.type_list_append mt_append (pv _) (pa_cons ht pa_nil))) :
    DS X P g (.Expr (.Call (.Attribute (.Name x p1) "append" p2) [e] [] p3) p4) (vApp i ta) := s_app i he hp
end
section
variable {X : Cx} {P : Gl0} {g : G} {tg e : Expr} {ta : TD} {tgt : TG'} {js : List Nat} {pos : Pos}
/-- target = e, the target any -/
def vAsg (ta : TD) (tgt : TG') : TSt := fun N ss => ta ss (fun d => tgt d ss N.nx) N.ex
theorem s_asg (he : DE X P g e ta) (hg : DG X P g tg js tgt) (hs : swapsWithSole [tg] e pos.line X.env = pure false := by rfl) (hw : swappedStores [tg] e X.env = pure none := by rfl) (h1 : (assignEach [tg] X.env).map (·.2) = [assign tg X.env] := by rfl) : DS X P g (.Assign [tg] e pos) (vAsg ta tgt) := by
  obtain ⟨gt, g1, g2⟩ := hg.ex
  exact DS.of (ps_asg he.pe g1 hs hw h1) fun σ H E H0 ss N S T h => upE.run S T h fun v H' d S' e' n q => g2 v d σ H' E H0 ss _ _ S' n q fun σ' ss' S2 _ _ _ q2 => ⟨ss', S2, q2⟩
end
theorem atI_nat {α : Type} {l : List α} {k : Int} (h0 : 0 ≤ k) (h1 : k < l.length) : L2.atI l k = some (l[k.toNat]'(by omega)) := by
  unfold L2.atI
  have e : ixN l.length k = some k.toNat := by
    unfold ixN
    first
      | (simp [h0, h1]; done)
      | (rw [if_pos ⟨h0, h1⟩])
      | (simp [h0, h1]; omega)
  rw [e, Option.bind_some]
  exact List.getElem?_eq_getElem _
end DL

set_option maxRecDepth 100000
set_option maxHeartbeats 4000000
namespace DL
open PySem PySem.Spec PyProof.Rows L2 LamX NdefX DLX

/-! ### an own exception, from what the written part says -/
theorem oex_mk {Pr : Program} {w : World} {K : PySem.W.Frag} {mg : Str → Option Value} {base : Heap} {C f cda cc : Addr} {qual attr pn : Str} {st : Stmt}
    {nm q : Str} {N : Addr} {bs bm : List Value} {sn : List Str} {sub : List Value} {ab : Bool} {col : Option Bool} {dd : Option Addr} {k0 k1 k2 k3 k5 : Option Value}
    {oc : Value} {od : Option Addr} {osl : Array (Option Value)} {name : Str} {dV kV doc pm ct : Value} {an : Option Addr} {ccl : Value} {cdd : Option Addr} {vs : Array Value} {ccs : Array (Option Value)} {file : Str} {tf : Tok} {cl : Value} {cld : Option Addr} {csl : Array (Option Value)}
    (lC : K.lookup C = some (excClassObj nm q C N bs bm true sn sub ab col dd k0 k1 k2 k3 k5 "ValueError.__new__")) (hbm : PySem.HandSPX.refsVE bm = true)
    (sa : PySem.W.findIn K (.ref C) "__setattr__" = some (some (.builtin "object.__setattr__"))) (exC : PySem.W.subIn K (.ref C) (.type "BaseException") = some true) (tyC : PySem.W.typeIn K (.ref C) = some (.type "type")) (kC : PySem.W.keepIn K (.ref C) = true)
    (iC : PySem.W.findIn K (.ref C) "__init__" = some (some (.ref f))) (tI : PySem.W.typeIn K (.ref f) = some (.type "function"))
    (l1 : K.lookup f = some ⟨oc, od, .func (PySem.W.ksFn name qual (defArgs st) (defBody st) (defScope st) dV kV doc pm an (.ref cda) ct cc), osl⟩) (c1 : PySem.W.codeIn K (.ref cda) qual = true)
    (lD : K.lookup cda = some ⟨ccl, cdd, .fields vs, ccs⟩) (hvs : vs[2]? = some (.str file tf)) (hfile : ((Pr.main.file : Str) == file) = true) (lc : K.lookup cc = some ⟨cl, cld, .cell (some (.ref C)), csl⟩)
    (top : (Pr.main.scope.names.lookup ("super" : Str)).isSome = false) (sup : PySem.W.nsIn K mainGlobals "super" = some none) (opq : PySem.W.nsIn K cStatics "thirdparty.any" = some none) (ini : PySem.W.ks_superIn K C C "__init__" = some (some (.builtin "ValueError.__init__")))
    (subC : PySem.W.mroIn K C (.ref C) = some true) (subB : PySem.W.subIn K (.ref C) (.type "ValueError") = some true) (no : PySem.W.findIn K (.ref C) attr = some none)
    (bd : ∃ p0 p1 p2 txt j p3 p4 p5 q1 q2 q3 q4, defBody st = [.Expr (.Call (.Attribute (.Call (.Name "super" p0) [] [] p1) "__init__" p2) [.Constant (.str txt) j p3] [] p4) p5, .Assign [.Attribute (.Name "self" q1) attr q2] (.Name pn q3) q4] ∧
      (∃ pl : Sem Bool, ∀ env, eval (.Call (.Attribute (.Call (.Name "super" p0) [] [] p1) "__init__" p2) [.Constant (.str txt) j p3] [] p4) env = (do
        let ov ← attributeBase (.Call (.Name "super" p0) [] [] p1) "__init__" env (eval (.Call (.Name "super" p0) [] [] p1) env)
        standAt p2.atName
        let (f, first) ← holding [ov] (getMethod ov "__init__" pl)
        callWith p4 f first (backTo p4 (starEach [.Constant (.str txt) j p3] env)) [])) ∧
      (∀ env, swapsWith (.Call (.Attribute (.Call (.Name "super" p0) [] [] p1) "__init__" p2) [.Constant (.str txt) j p3] [] p4) none p5.line env = pure false) ∧
      (∀ env, swapsWith (.Name pn q3) (some (.Attribute (.Name "self" q1) attr q2)) q4.line env = pure false))
    (har : ∃ ar, ((defArgs st).posonlyargs ++ (defArgs st).args).head? = some ar ∧ ar.arg = "self")
    (sc : (defScope st).names.lookup ("super" : Str) = some .globalImplicit ∧ (defScope st).names.lookup ("__class__" : Str) = some .free ∧ (defScope st).names.lookup ("self" : Str) = some .local ∧ (defScope st).names.lookup pn = some .local ∧ (defScope st).kind = .function ∧ (defScope st).isCoroutine = false ∧ (defScope st).isGenerator = false ∧ (∀ x ∈ (defScope st).names, x.2 ≠ .cell) ∧ pn ≠ ("self" : Str) ∧ (pn == ("__debug__" : Str)) = false)
    (bx : BX (PySem.W.ksFn name qual (defArgs st) (defBody st) (defScope st) dV kV doc pm an (.ref cda) ct cc) pn) : OexD Pr w K mg base C attr pn := by
  have T : OexC K C := ⟨⟨_, _, _, _, _, _, _, _, _, _, _, _, _, _, _, lC, hbm⟩, sa, exC, tyC, kC⟩
  obtain ⟨s1, s2, s3, s4, s5, s6, s7, s8, s9, s10⟩ := sc
  have W : Words K Pr C f qual attr pn (defBody st) (defScope st) := ⟨bd, ⟨_, _, _, _, _, _, _, _, _, _, _, _, _, l1, c1, har, ⟨_, _, _, _, _, _, lD, hvs, hfile⟩, ⟨_, _, _, lc⟩⟩, top, sup, opq, ini, subC, subB, no, s1, s2, s3, s4, s5, s6, s7, s8, s9, s10⟩
  exact ⟨T, f, _, iC, tI, bx, init_ok T W ⟨_, _, _, l1⟩⟩

/-! ### the law's own call, where no repr runs -/
theorem law_end {Pr : Program} {w : World} {K : PySem.W.Frag} {mg mb : Str → Option Value} {k : Nat} {fa a : Addr} {fd : FuncData} {sp : Sp} {s : Shared} {vs : List Value} {ns : List Int}
    (KX : K.In s.heap) (hns : s.heap.Ns mainGlobals mg) (hb : s.heap.Ns builtinsNs mb) (hbb : ∀ x : Str, x ≠ "__name__" → mb x = bootBuiltins x) (hlim : s.heap.NoLimit) (hg : s.gens = #[])
    (ha : s.heap.get? a = some { cls := .type "list", data := .seq vs.toArray }) (hi : IntsAre vs ns) (hl : ns.length ≤ sizeLine) (hr : Room k callerA)
    (F : ∀ base : Heap, K.In base → base.Ns mainGlobals mg → FnG Pr w K mg base (L2.CX Pr w) k fa fd ["script"] sp) (hbind : ∀ (s : Shared) (u : Value), BindsTo s fd ⟨[u], []⟩ [(("script" : Str), u)])
    (hsp : ∀ H : Hp, SqL K H a (ns.map V.int) → sp [.ref a] H (fun v _ => v = .bl true) fun _ _ _ => False) :
    codeAny (model Pr w) callerA (.call (.ref fa) ⟨[.ref a], []⟩) (fun r s' => r = .ok (.ret (.bool true)) ∧ OldK s.heap s'.heap ∧ s'.os = s.os ∧ AllBare s'.gens) s := by
  have rv := vals_ints hi
  obtain ⟨u0, hu0⟩ : ∃ u0 : HO, u0 = .frz { cls := .type "list", data := .seq vs.toArray } (.lst (ns.map V.int)) := ⟨_, rfl⟩
  -- at most the script is tracked
  have core : ∀ H : Hp, (∀ b u, H b = some u → b = a ∧ u = u0 ∧ K.lookup a = none) → SqL K H a (ns.map V.int) → HOk Pr w H s.heap → 
      codeAny (model Pr w) callerA (.call (.ref fa) ⟨[.ref a], []⟩) (fun r s' => r = .ok (.ret (.bool true)) ∧ OldK s.heap s'.heap ∧ s'.os = s.os ∧ AllBare s'.gens) s := by
    intro H hH hS hok
    have dict : ∀ {b : Addr} {o : Obj} {es : Array DictEntry} {ep : Nat}, s.heap.get? b = some o → o.data = .dict es ep → H b = none := fun {b o es ep} e d => by
      cases q : H b with
      | none => rfl
      | some u =>
        obtain ⟨rfl, _, _⟩ := hH b u q
        rw [ha] at e
        cases e
        cases d
    have ns' : ∀ {b : Addr} {m : Str → Option Value}, s.heap.Ns b m → (hidT s.heap H).Ns b m := fun {b m} ⟨o, es, ep, e, d, r⟩ => ⟨o, es, ep, hidT_get e (dict e d), d, r⟩
    have kin : K.In (hidT s.heap H) := fun b o e => hidT_get (KX b o e) (by
      cases q : H b with
      | none => rfl
      | some u =>
        obtain ⟨rfl, _, n⟩ := hH b u q
        rw [n] at e
        cases e)
    have M : L2.Mod K mg (hidT s.heap H) := ⟨kin, ns' hns, ⟨mb, ns' hb, hbb⟩, let ⟨mc, h1, h2⟩ := hlim; ⟨mc, ns' h1, h2⟩⟩
    have e0 : Env0 Pr w K mg (hidT s.heap H) callerA [] s H := ⟨rfl, M, fun b o e => of_hidT e, Nat.le_of_eq (hidT_size _ _), trivial, fun b hb => (List.not_mem_nil hb).elim, hok, .of_eq hg⟩
    refine codeAny_mono ((F _ kin (ns' hns)).run callerA [] s H ⟨[.ref a], []⟩ [.ref a] [.ref a] _ _ hr rfl e0 (hbind s (.ref a)) (.cons rfl .nil) (hsp H hS)) fun r s' h => ?_
    cases r with
    | error e =>
      obtain ⟨_, _, _, _, _, _, _, _, _, _, _, _, z⟩ := h
      exact z.elim
    | ok fl =>
      cases fl with
      | next => exact False.elim h
      | brk => exact False.elim h
      | cont => exact False.elim h
      | ret u =>
        obtain ⟨v, H', os, bare, un, hok', rv', q⟩ := h
        have q : v = .bl true := q
        subst q
        obtain rfl : u = Value.bool true := rv'
        have key : ∀ b o, s.heap.get? b = some o → s'.heap.get? b = some o := fun b o e => by
          cases z : H b with
          | none => exact un.keep b o e z (fun m => List.not_mem_nil m) (fun m => List.not_mem_nil m)
          | some u =>
            obtain ⟨rfl, rfl, _⟩ := hH b u z
            rw [hu0] at z
            have z2 := un.frzs _ _ _ z
            obtain ⟨e1, _⟩ := hok' _ _ z2
            rw [ha] at e
            cases e
            exact e1
        exact ⟨rfl, ⟨fun b o e => .inl (key b o e), fun b o e => ⟨o, key b o e⟩⟩, os, bare⟩
  cases hk : K.lookup a with
  | some o =>
    have e := KX a o hk
    rw [ha] at e
    cases e
    exact core (fun _ => none) (fun b u z => by cases z) (.inr ⟨_, vs.toArray, _, hk, rfl, rfl, rfl, by rw [List.size_toArray, hi.length]; exact hl, by simpa using rv⟩) (fun b u z => by cases z)
  | none =>
    refine core (fun b => if b = a then some u0 else none) (fun b u z => ?_) (.inl (.inr ⟨{ cls := .type "list", data := .seq vs.toArray }, by rw [hu0]; exact if_pos rfl⟩)) (fun b u z => ?_)
    · have z : (if b = a then some u0 else none) = some u := z
      by_cases e : b = a
      · rw [if_pos e] at z
        cases z
        exact ⟨e, rfl, hk⟩
      · rw [if_neg e] at z
        cases z
    · have z : (if b = a then some u0 else none) = some u := z
      by_cases e : b = a
      · rw [if_pos e] at z
        cases z
        subst e
        rw [hu0]
        exact ⟨ha, by rw [List.length_map]; exact hl, vs, _, rv, ha⟩
      · rw [if_neg e] at z
        cases z
theorem walkG {l : PySem.W.OpenLaw} {n k : Nat} {q : Program} {loose : List Str} {XP : (Str → Option Value) → Heap → Prop} {YP : World → Heap → Prop} {d : DefRec} {K : Params → PySem.W.Frag}
    (hn : l.most = some n) (hn2 : n ≤ sizeLine) (hdf : d.params.defaults = []) (hr : Room k callerA) (hY : ∀ (w : World) (h : Heap), YP w h → (K w.params).In h)
    (F : ∀ (w : World) (mg : Str → Option Value) (fa : Addr) (h : Heap), (K w.params).In h → h.Ns mainGlobals mg → mg d.name = some (.ref fa) →
      ∃ (fd : FuncData) (sp : Sp), (∀ (s : Shared) (u : Value), BindsTo s fd ⟨[u], []⟩ [(("script" : Str), u)]) ∧ (∀ (H : Hp) (a : Addr) (ns : List Int), ns.length ≤ n → SqL (K w.params) H a (ns.map V.int) → sp [.ref a] H (fun v _ => v = .bl true) fun _ _ _ => False) ∧
        ∀ base : Heap, (K w.params).In base → base.Ns mainGlobals mg → FnG l.prog w (K w.params) mg base (L2.CX l.prog w) k fa fd ["script"] sp) :
    PySem.W.WalkO q loose XP YP l.row.toRowW d [] (fun f vs => PySem.call f vs) := by
  refine Att.attach_callB hn hdf fun w s₀ s₁ mg mb fa o pm cd doc a vs ns G Y ho hd hcd hmg hobj hints hlen hbits hg => ?_
  have KX := hY w _ Y
  obtain ⟨fd, sp, hb, hsp, hF⟩ := F w mg fa _ KX G.T.g hmg
  exact law_end KX G.T.g G.T.b G.T.builtins G.T.nolimit hg hobj hints (Nat.le_trans hlen hn2) hr hF hb fun H hS => hsp H a ns hlen hS
end DL

set_option maxRecDepth 100000
set_option maxHeartbeats 4000000
namespace DL
open PySem PySem.Spec PyProof.Rows L2 LamX NdefX DLX

/-! ### an own exception class, looked at -/
structure XI where
  C : Addr
  f : Addr
  cda : Addr
  cc : Addr
  name : Str
  qual : Str
  st : Stmt
  attr : Str
def clsV (K : PySem.W.Frag) (C : Addr) : Bool := match K.lookup C with
  | some ⟨.type T, _, .cls cd, sl⟩ => (match cd.mro, sl.toList with
    | .ref C' :: bm, [_, _, _, _, some (.builtin n), _] => T == "type" && (C' == C && (n == "ValueError.__new__" && (!cd.hasDel && (cd.hasDict && PySem.HandSPX.refsVE bm))))
    | _, _ => false)
  | _ => false
theorem clsV_ok {K : PySem.W.Frag} {C : Addr} (h : clsV K C = true) : ∃ nm q N bs bm sn sub ab col dd k0 k1 k2 k3 k5, K.lookup C = some (excClassObj nm q C N bs bm true sn sub ab col dd k0 k1 k2 k3 k5 "ValueError.__new__") ∧ PySem.HandSPX.refsVE bm = true := by
  unfold clsV at h
  split at h
  · rename_i T dd cd sl e
    split at h
    · rename_i C' bm k0 k1 k2 k3 n k5 e1 e2
      simp only [Bool.and_eq_true, beq_iff_eq, Bool.not_eq_true'] at h
      obtain ⟨h1, h2, h3, h4, h5, h6⟩ := h
      subst h1 h2 h3
      obtain ⟨nm, bs, mro, ns, qn, hd, sn, sb, ab, col, del⟩ := cd
      dsimp only at e1 h4 h5
      subst e1 h4 h5
      obtain ⟨sl⟩ := sl
      dsimp only at e2
      subst e2
      exact ⟨_, _, _, _, _, _, _, _, _, _, _, _, _, _, _, e, h6⟩
    · cases h
  · cases h
def xiB (Pr : Program) (K : PySem.W.Frag) (i : XI) : Bool := clsV K i.C && (He.eqO (PySem.W.findIn K (.ref i.C) "__setattr__") (some (some (.builtin "object.__setattr__"))) && (decide (PySem.W.subIn K (.ref i.C) (.type "BaseException") = some true) && (decide (PySem.W.typeIn K (.ref i.C) = some (.type "type")) && (PySem.W.keepIn K (.ref i.C) &&
  (He.eqO (PySem.W.findIn K (.ref i.C) "__init__") (some (some (.ref i.f))) && (decide (PySem.W.typeIn K (.ref i.f) = some (.type "function")) && (PySem.W.codeIn K (.ref i.cda) i.qual && ((match K.lookup i.cda with | some ⟨_, _, .fields vs, _⟩ => (match (vs[2]? : Option Value) with | some (Value.str file _) => (Pr.main.file : Str) == file | _ => false) | _ => false) &&
  ((match K.lookup i.cc with | some ⟨_, _, .cell (some v), _⟩ => decide (v = .ref i.C) | _ => false) && (He.eqO (PySem.W.ks_superIn K i.C i.C "__init__") (some (some (.builtin "ValueError.__init__"))) && (decide (PySem.W.mroIn K i.C (.ref i.C) = some true) && (decide (PySem.W.subIn K (.ref i.C) (.type "ValueError") = some true) && He.eqO (PySem.W.findIn K (.ref i.C) i.attr) (some none)))))))))))))
abbrev FnX : Type := Option (Str × Str × Arguments × FuncBody × Scope × Addr × List (Str × Addr) × Value × Value × Addr)
def xiF (K : PySem.W.Frag) (i : XI) : FnX := match K.lookup i.f with
  | some ⟨_, _, .func fd, _⟩ => some (fd.name, fd.qualname, fd.params, fd.body, fd.scope, fd.globals, fd.closure, fd.defaults, fd.code, fd.builtins)
  | _ => none
def XI.val (i : XI) : FnX := some (i.name, i.qual, defArgs i.st, .stmts (defBody i.st), defScope i.st, mainGlobals, [("__class__", i.cc)], .none, .ref i.cda, builtinsNs)
/-- what stands in the program's text, of such a class -/
structure XIT (i : XI) (pn : Str) : Prop where
  bd : ∃ p0 p1 p2 txt j p3 p4 p5 q1 q2 q3 q4, defBody i.st = [.Expr (.Call (.Attribute (.Call (.Name "super" p0) [] [] p1) "__init__" p2) [.Constant (.str txt) j p3] [] p4) p5, .Assign [.Attribute (.Name "self" q1) i.attr q2] (.Name pn q3) q4] ∧
      (∃ pl : Sem Bool, ∀ env, eval (.Call (.Attribute (.Call (.Name "super" p0) [] [] p1) "__init__" p2) [.Constant (.str txt) j p3] [] p4) env = (do
        let ov ← attributeBase (.Call (.Name "super" p0) [] [] p1) "__init__" env (eval (.Call (.Name "super" p0) [] [] p1) env)
        standAt p2.atName
        let (f, first) ← holding [ov] (getMethod ov "__init__" pl)
        callWith p4 f first (backTo p4 (starEach [.Constant (.str txt) j p3] env)) [])) ∧
      (∀ env, swapsWith (.Call (.Attribute (.Call (.Name "super" p0) [] [] p1) "__init__" p2) [.Constant (.str txt) j p3] [] p4) none p5.line env = pure false) ∧
      (∀ env, swapsWith (.Name pn q3) (some (.Attribute (.Name "self" q1) i.attr q2)) q4.line env = pure false)
  har : ∃ ar, ((defArgs i.st).posonlyargs ++ (defArgs i.st).args).head? = some ar ∧ ar.arg = "self"
  sc : (defScope i.st).names.lookup ("super" : Str) = some .globalImplicit ∧ (defScope i.st).names.lookup ("__class__" : Str) = some .free ∧ (defScope i.st).names.lookup ("self" : Str) = some .local ∧ (defScope i.st).names.lookup pn = some .local ∧ (defScope i.st).kind = .function ∧ (defScope i.st).isCoroutine = false ∧ (defScope i.st).isGenerator = false ∧ (∀ x ∈ (defScope i.st).names, x.2 ≠ .cell) ∧ pn ≠ ("self" : Str) ∧ (pn == ("__debug__" : Str)) = false
  bx : ∀ (kV doc pm ct : Value) (an : Option Addr), BX (PySem.W.ksFn i.name i.qual (defArgs i.st) (defBody i.st) (defScope i.st) .none kV doc pm an (.ref i.cda) ct i.cc) pn
theorem xi_ok {Pr : Program} {w : World} {K : PySem.W.Frag} {mg : Str → Option Value} {base : Heap} {i : XI} {pn : Str} (h : xiB Pr K i = true) (hf : xiF K i = i.val) (T : XIT i pn) (top : (Pr.main.scope.names.lookup ("super" : Str)).isSome = false) (sup : PySem.W.nsIn K mainGlobals "super" = some none) (opq : PySem.W.nsIn K cStatics "thirdparty.any" = some none) : OexD Pr w K mg base i.C i.attr pn := by
  unfold xiB at h
  simp only [Bool.and_eq_true, decide_eq_true_eq] at h
  obtain ⟨h1, h2, h3, h4, h5, h6, h7, h8, h9, h10, h11, h12, h13, h14⟩ := h
  obtain ⟨nm, q, N, bs, bm, sn, sub, ab, col, dd, k0, k1, k2, k3, k5, lC, hbm⟩ := clsV_ok h1
  split at h9
  · rename_i ccl cdd vs ccs lD
    split at h9
    · rename_i file tf hvs
      split at h10
      · rename_i cl cld v csl lc
        have h10 := of_decide_eq_true h10
        subst h10
        unfold xiF XI.val at hf
        split at hf
        · rename_i oc od fd osl l1
          obtain ⟨a1, a2, a3, a4, a5, a6, a7, a8, a9, a10, a11, a12, a13, a14⟩ := fd
          simp only [Option.some.injEq, Prod.mk.injEq] at hf
          obtain ⟨e1, e2, e3, e4, e5, e6, e7, e8, e9, e10⟩ := hf
          subst e1 e2 e3 e4 e5 e6 e7 e8 e9 e10
          exact oex_mk (st := i.st) lC hbm (He.eqO_ok h2) h3 h4 h5 (He.eqO_ok h6) h7 l1 h8 lD hvs h9 lc top sup opq (He.eqO_ok h11) h12 h13 (He.eqO_ok h14) T.bd T.har T.sc (T.bx _ _ _ _ _)
        · cases hf
      · cases h10
    · cases h9
  · cases h9
/-! ### a def, looked at -/
def fnX (K : PySem.W.Frag) (f : Addr) : FnX := match K.lookup f with
  | some ⟨_, _, .func fd, _⟩ => some (fd.name, fd.qualname, fd.params, fd.body, fd.scope, fd.globals, fd.closure, fd.defaults, fd.code, fd.builtins)
  | _ => none
def defV (x : Str) (st : Stmt) (cd : Addr) : FnX := some (x, x, defArgs st, .stmts (defBody st), defScope st, mainGlobals, [], .none, .ref cd, builtinsNs)
theorem def_ok {K : PySem.W.Frag} {x : Str} {st : Stmt} {f cd : Addr} (h : fnX K f = defV x st cd) (c : PySem.W.codeIn K (.ref cd) x = true) (k : PySem.W.keepIn K (.ref f) = true) : ∃ fd : FuncData, L2.Fun K x x st f fd := by
  unfold fnX defV at h
  split at h
  · rename_i oc od fd osl l1
    obtain ⟨a1, a2, a3, a4, a5, a6, a7, a8, a9, a10, a11, a12, a13, a14⟩ := fd
    simp only [Option.some.injEq, Prod.mk.injEq] at h
    obtain ⟨e1, e2, e3, e4, e5, e6, e7, e8, e9, e10⟩ := h
    subst e1 e2 e3 e4 e5 e6 e7 e8 e9 e10
    exact ⟨_, L2.fun_mk l1 c k⟩
  · cases h
/-! ### the head by one run, and the law's end over it -/
abbrev AlL : Type := List (Option (Option Value)) × List Bool × List FnX
def hookL (as : List Addr) (obs : PySem.W.Frag → AlL) (val : AlL) : PySem.W.Hook where
  α := AlL
  obs := fun s => obs (He.frG s.heap.get? as)
  val := fun _ => val
  says := fun _ h => ∃ K : PySem.W.Frag, K.In h ∧ obs K = val
  of := fun _ _ e => ⟨_, He.frG_in, e⟩
  keeps := fun _ _ _ ⟨K, hK, c⟩ k => ⟨K, PySem.W.Frag.In.keeps hK k, c⟩
theorem obL_eq {as : List Addr} {obs : PySem.W.Frag → AlL} {val : AlL} (s : PySem.W.SharedT) : obs (He.frG (HandSHeadRun.getT s) as) = (hookL as obs val).obs s.abs := by
  have e : HandSHeadRun.getT s = s.abs.heap.get? := funext (HandSHeadRun.getT_eq s)
  rw [e]
  rfl
theorem walkH {l : PySem.W.OpenLaw} {n k : Nat} {q : Program} {loose : List Str} {XP : (Str → Option Value) → Heap → Prop} {YP : World → Heap → Prop} {d : DefRec}
    (hn : l.most = some n) (hn2 : n ≤ sizeLine) (hdf : d.params.defaults = []) (hr : Room k callerA)
    (F : ∀ (w : World) (mg : Str → Option Value) (fa : Addr) (h : Heap), YP w h → h.Ns mainGlobals mg → mg d.name = some (.ref fa) →
      ∃ (K : PySem.W.Frag) (fd : FuncData) (sp : Sp), K.In h ∧ (∀ (s : Shared) (u : Value), BindsTo s fd ⟨[u], []⟩ [(("script" : Str), u)]) ∧ (∀ (H : Hp) (a : Addr) (ns : List Int), ns.length ≤ n → SqL K H a (ns.map V.int) → sp [.ref a] H (fun v _ => v = .bl true) fun _ _ _ => False) ∧
        ∀ base : Heap, K.In base → base.Ns mainGlobals mg → FnG l.prog w K mg base (L2.CX l.prog w) k fa fd ["script"] sp) : PySem.W.WalkO q loose XP YP l.row.toRowW d [] (fun f vs => PySem.call f vs) := by
  refine Att.attach_callB hn hdf fun w s₀ s₁ mg mb fa o pm cd doc a vs ns G Y _ _ _ hmg hobj hints hlen _ hg => ?_
  obtain ⟨K, fd, sp, KX, hb, hsp, hF⟩ := F w mg fa _ Y G.T.g hmg
  exact law_end KX G.T.g G.T.b G.T.builtins G.T.nolimit hg hobj hints (Nat.le_trans hlen hn2) hr hF hb fun H hS => hsp H a ns hlen hS
end DL

set_option maxRecDepth 100000
set_option maxHeartbeats 8000000
namespace K00
open PySem PySem.Spec PyProof.Rows L2 LamX NdefX DLX DL
def top (i : Nat) : Stmt := PySem.Challenge.pw_onebasis_k00_errors_of_all_parts.main.body.getD i (.Pass ⟨0, 0, 0, 0⟩)
abbrev s_BadNumber : Stmt := inClass (top 2) 0
abbrev s_BadRule : Stmt := inClass (top 3) 0
abbrev s_BadWeb : Stmt := inClass (top 5) 0
abbrev s_TooMany : Stmt := inClass (top 6) 0
abbrev s_BadAffine : Stmt := inClass (top 7) 0
abbrev s_BadProduct : Stmt := inClass (top 8) 0
abbrev s_NotAffine : Stmt := inClass (top 9) 0
abbrev s_NotProduct : Stmt := inClass (top 10) 0
abbrev s_NotShort : Stmt := inClass (top 11) 0
abbrev s_NoClass : Stmt := inClass (top 12) 0
abbrev s_BadForm : Stmt := inClass (top 13) 0
abbrev s_BadGate : Stmt := inClass (top 14) 0
abbrev s_BadBasis : Stmt := inClass (top 19) 0
abbrev s_BadLot : Stmt := inClass (top 20) 0
abbrev s_BadFormula : Stmt := inClass (top 22) 0
abbrev s_BadText : Stmt := inClass (top 23) 0
abbrev s_NotLet : Stmt := inClass (top 26) 0
abbrev s_BadDeedLine : Stmt := inClass (top 30) 0
abbrev s_NoForm : Stmt := inClass (top 31) 0
abbrev s_BadLive : Stmt := inClass (top 37) 0
abbrev s_BadLog : Stmt := inClass (top 38) 0
abbrev s_law_begun : Stmt := top 40
abbrev s_law_mixed : Stmt := top 41
abbrev s_law_take : Stmt := top 42
abbrev s_law_pick : Stmt := top 43
abbrev s_law_any : Stmt := top 44
abbrev s_law_kinds : Stmt := top 45
abbrev s_law_plain_errors : Stmt := top 46
abbrev s_law_errors_of : Stmt := top 47
abbrev s_law : Stmt := top 48

structure MB (mg : Str → Option Value) : Prop where
  b_abs : mg "abs" = none
  b_int : mg "int" = none
  b_len : mg "len" = none
  b_isinstance : mg "isinstance" = none
  b_enumerate : mg "enumerate" = none
  b_range : mg "range" = none
  b_repr : mg "repr" = none
  b_ValueError : mg "ValueError" = none

variable {Pr : Program} {w : World} {K : PySem.W.Frag} {mg : Str → Option Value} {base : Heap} {P : Gl0}

/-! ### the draw -/
theorem mb {A B : Prop} : ∀ b : Bool, (b = true → A) → (b = false → B) → (match b with | true => A | false => B)
  | true, h, _ => h rfl
  | false, _, h => h rfl

def cMixed : Ctr := fun ds Q _ => ds = [.box 0] ∧ ∀ i : Int, Q (.int i)
def cTake : Ctr := fun ds Q _ => ∃ n : Int, ds = [.box 0, .int n] ∧ 0 < n ∧ n < 1073741824 ∧ ∀ k : Int, 0 ≤ k → k < n → Q (.int k)
def cPick : Ctr := fun ds Q _ => ∃ l : List D, ds = [.box 0, .lst l] ∧ l ≠ [] ∧ l.length < 1073741824 ∧ ∀ d ∈ l, Q d
theorem sc_begun : FnScope ["script", "grain", "large"] ["script"] (defScope s_law_begun) := ⟨rfl, rfl, rfl, by decide +kernel, rfl, by decide +kernel, by decide +kernel⟩
theorem sc_mixed : FnScope ["draw", "turn", "found", "great", "blend", "grain"] ["draw"] (defScope s_law_mixed) := ⟨rfl, rfl, rfl, by decide +kernel, rfl, by decide +kernel, by decide +kernel⟩
theorem sc_take : FnScope ["draw", "amount", "found"] ["draw", "amount"] (defScope s_law_take) := ⟨rfl, rfl, rfl, by decide +kernel, rfl, by decide +kernel, by decide +kernel⟩
theorem sc_pick : FnScope ["draw", "some"] ["draw", "some"] (defScope s_law_pick) := ⟨rfl, rfl, rfl, by decide +kernel, rfl, by decide +kernel, by decide +kernel⟩
theorem ok_mixed {f : Addr} {fd : FuncData} (F : L2.Fun K "_law_mixed" "_law_mixed" s_law_mixed f fd) (M : MB mg) : FnG Pr w K mg base (L2.CX Pr w) 2 f fd ["draw"] (spD P gpD 1 cMixed) := by
  have nd := sc_mixed.nd
  refine fnD (k := 1) F sc_mixed (fun g hgp cdv A outer s H E hr hgd => (ss_cons (s_boxS 0 hgp num_turn hr.units (d_op o_add (d_boxI 0 hgp num_turn hr.units) d_int)) (ss_cons (s_par (i := 1) (j := 2) rfl nd (a_cons (d_callTy c_int rfl (M.b_int) (by first | rfl | decide +kernel) (a_cons (d_boxI 0 hgp num_turn hr.units) a_nil)) (a_cons d_int a_nil))) (ss_cons (s_for (passes_of rfl) rfl (i_seq (d_lst (a_cons d_int (a_cons d_int (a_cons d_int a_nil))))) (g_name 3 nd) (ss_cons (s_set 4 nd (d_op o_mod (d_op o_add (d_op o_mul (d_var 1) d_int) (d_op o_div (d_var 3) d_int)) (d_var 3))) (ss_cons (s_for (passes_of rfl) rfl (i_cells 0 hgp hr.units) (g_name 5 nd) (ss_one (s_set 4 nd (d_op o_mod (d_op o_add (d_op o_mul (d_var 4) d_int) (d_callTy c_int rfl (M.b_int) (by first | rfl | decide +kernel) (a_cons (d_var 5) a_nil))) (d_var 3))))) (ss_one (s_set 2 nd (d_op o_add (d_op o_mul (d_var 2) d_int) (d_op o_mod (d_op o_pow (d_var 4) d_int) (d_var 3)))))))) (ss_one (s_ret (d_var 2))))))) ?_
  intro ds Qd Qx hl hc
  obtain ⟨rfl, hq⟩ := hc
  rw [show startS ["draw", "turn", "found", "great", "blend", "grain"] [D.box 0] = [.v (.box 0), .u, .u, .u, .u, .u] from rfl]
  dsimp only [DL.vAsg, DL.vFor, DL.vSeqI, DL.vNeg, DL.vPar, DL.vDct, DL.rMem, DL.vEnum, DL.vRepL, DL.vBoxI, DL.vBoxS, DL.vCells, DL.vPopOr, DL.vScr, DL.vV, DL.vC, DL.vOp, DL.isB, DL.vTest, DL.vAnd, DL.vOr, DL.vNot, DL.vAndV, DL.vOrV, DL.vNotV, DL.vIf, DL.isNon, DL.vIsN, DL.vNotN, DL.vNil, DL.vCons, DL.vTup, DL.vLst, DL.rAdd, DL.rSub, DL.rMul, DL.rInt, DL.rDiv, DL.rMod, DL.rPow, DL.rShl, DL.rLt, DL.rLe, DL.rGt, DL.rGe, DL.vChain, DL.rEqS, DL.rNeS, DL.rIx, DL.vIx, DL.vNoPart, DL.isI, DL.vPart, DL.rSl, DL.vSl, DL.vCB, DL.rLen, DL.rAbs, DL.rMax2, DL.rMin2, DL.rIntOf, DL.rListOf, DL.rTupleOf, DL.vNext, DL.vSeq, DL.vBreak, DL.vCont, DL.vNever, DL.vFrz, DL.vBor, DL.vBorT, DL.vSet, DL.vDrop, DL.vRet, DL.vRetN, DL.vIfS, DL.vNew, DL.vOwn, DL.isL, DL.isIn, DL.isOwnL, DL.vApp, DL.vSto, DL.gV, DL.gT, DL.vRng1, DL.vRng2, DL.vYes, DL.vLc, DL.vCall, DL.vAttr, DL.vIsi, DL.vMk0, DL.vMkX, endsD, List.getElem?_cons_zero, List.getElem?_cons_succ, List.set_cons_zero, List.set_cons_succ, frz, frz1, wipeS, setN, noOwn, DL.isNon, Bool.not_true, Bool.not_false, List.length_cons, List.length_nil, List.map_cons, List.map_nil]
  refine ⟨rfl, rfl, fun z => ⟨rfl, fun t => ?_⟩⟩
  refine ⟨by decide, fun i ss => ∃ (f : Int) (a b c : Sl), ss = [.v (.box 0), .v (.int t), .v (.int f), a, b, c], ⟨0, _, _, _, rfl⟩, ?_, ?_⟩
  · rintro i d ss hd ⟨f, a, b, c, rfl⟩
    obtain ⟨great, rfl, hg1, hg2⟩ : ∃ great : Int, d = .int great ∧ 0 < great ∧ great < 2147483648 := by
      have hi : i < 3 := (List.getElem?_eq_some_iff.mp hd).1
      match i, hi with
      | 0, _ => exact ⟨_, (Option.some.inj hd).symm, by decide, by decide⟩
      | 1, _ => exact ⟨_, (Option.some.inj hd).symm, by decide, by decide⟩
      | 2, _ => exact ⟨_, (Option.some.inj hd).symm, by decide, by decide⟩
    dsimp only [DL.vAsg, DL.vFor, DL.vSeqI, DL.vNeg, DL.vPar, DL.vDct, DL.rMem, DL.vEnum, DL.vRepL, DL.vBoxI, DL.vBoxS, DL.vCells, DL.vPopOr, DL.vScr, DL.vV, DL.vC, DL.vOp, DL.isB, DL.vTest, DL.vAnd, DL.vOr, DL.vNot, DL.vAndV, DL.vOrV, DL.vNotV, DL.vIf, DL.isNon, DL.vIsN, DL.vNotN, DL.vNil, DL.vCons, DL.vTup, DL.vLst, DL.rAdd, DL.rSub, DL.rMul, DL.rInt, DL.rDiv, DL.rMod, DL.rPow, DL.rShl, DL.rLt, DL.rLe, DL.rGt, DL.rGe, DL.vChain, DL.rEqS, DL.rNeS, DL.rIx, DL.vIx, DL.vNoPart, DL.isI, DL.vPart, DL.rSl, DL.vSl, DL.vCB, DL.rLen, DL.rAbs, DL.rMax2, DL.rMin2, DL.rIntOf, DL.rListOf, DL.rTupleOf, DL.vNext, DL.vSeq, DL.vBreak, DL.vCont, DL.vNever, DL.vFrz, DL.vBor, DL.vBorT, DL.vSet, DL.vDrop, DL.vRet, DL.vRetN, DL.vIfS, DL.vNew, DL.vOwn, DL.isL, DL.isIn, DL.isOwnL, DL.vApp, DL.vSto, DL.gV, DL.gT, DL.vRng1, DL.vRng2, DL.vYes, DL.vLc, DL.vCall, DL.vAttr, DL.vIsi, DL.vMk0, DL.vMkX, endsD, List.getElem?_cons_zero, List.getElem?_cons_succ, List.set_cons_zero, List.set_cons_succ, frz, frz1, wipeS, setN, noOwn, DL.isNon, Bool.not_true, Bool.not_false, List.length_cons, List.length_nil, List.map_cons, List.map_nil]
    have em : ∀ x : Int, 0 ≤ x % great ∧ x % great < great := fun x => ⟨Int.emod_nonneg _ (by omega), Int.emod_lt_of_pos _ hg1⟩
    refine ⟨.inr (by decide), by unfold CDiv; decide, hg1, rfl, fun ns hn => ⟨fun i ss => ∃ (bl : Int) (e : Sl), 0 ≤ bl ∧ bl < great ∧ ss = [.v (.box 0), .v (.int t), .v (.int f), .v (.int great), .v (.int bl), e], ⟨_, _, (em _).1, (em _).2, rfl⟩, ?_, ?_⟩⟩
    · rintro i d ss hd ⟨bl, e, h1, h2, rfl⟩
      rw [List.getElem?_map] at hd
      obtain ⟨y, _, rfl⟩ := Option.map_eq_some_iff.mp hd
      dsimp only [DL.vAsg, DL.vFor, DL.vSeqI, DL.vNeg, DL.vPar, DL.vDct, DL.rMem, DL.vEnum, DL.vRepL, DL.vBoxI, DL.vBoxS, DL.vCells, DL.vPopOr, DL.vScr, DL.vV, DL.vC, DL.vOp, DL.isB, DL.vTest, DL.vAnd, DL.vOr, DL.vNot, DL.vAndV, DL.vOrV, DL.vNotV, DL.vIf, DL.isNon, DL.vIsN, DL.vNotN, DL.vNil, DL.vCons, DL.vTup, DL.vLst, DL.rAdd, DL.rSub, DL.rMul, DL.rInt, DL.rDiv, DL.rMod, DL.rPow, DL.rShl, DL.rLt, DL.rLe, DL.rGt, DL.rGe, DL.vChain, DL.rEqS, DL.rNeS, DL.rIx, DL.vIx, DL.vNoPart, DL.isI, DL.vPart, DL.rSl, DL.vSl, DL.vCB, DL.rLen, DL.rAbs, DL.rMax2, DL.rMin2, DL.rIntOf, DL.rListOf, DL.rTupleOf, DL.vNext, DL.vSeq, DL.vBreak, DL.vCont, DL.vNever, DL.vFrz, DL.vBor, DL.vBorT, DL.vSet, DL.vDrop, DL.vRet, DL.vRetN, DL.vIfS, DL.vNew, DL.vOwn, DL.isL, DL.isIn, DL.isOwnL, DL.vApp, DL.vSto, DL.gV, DL.gT, DL.vRng1, DL.vRng2, DL.vYes, DL.vLc, DL.vCall, DL.vAttr, DL.vIsi, DL.vMk0, DL.vMkX, endsD, List.getElem?_cons_zero, List.getElem?_cons_succ, List.set_cons_zero, List.set_cons_succ, frz, frz1, wipeS, setN, noOwn, DL.isNon, Bool.not_true, Bool.not_false, List.length_cons, List.length_nil, List.map_cons, List.map_nil]
      exact ⟨.inr (by decide), hg1, _, _, (em _).1, (em _).2, rfl⟩
    · rintro ss ⟨bl, e, h1, h2, rfl⟩
      dsimp only [DL.vAsg, DL.vFor, DL.vSeqI, DL.vNeg, DL.vPar, DL.vDct, DL.rMem, DL.vEnum, DL.vRepL, DL.vBoxI, DL.vBoxS, DL.vCells, DL.vPopOr, DL.vScr, DL.vV, DL.vC, DL.vOp, DL.isB, DL.vTest, DL.vAnd, DL.vOr, DL.vNot, DL.vAndV, DL.vOrV, DL.vNotV, DL.vIf, DL.isNon, DL.vIsN, DL.vNotN, DL.vNil, DL.vCons, DL.vTup, DL.vLst, DL.rAdd, DL.rSub, DL.rMul, DL.rInt, DL.rDiv, DL.rMod, DL.rPow, DL.rShl, DL.rLt, DL.rLe, DL.rGt, DL.rGe, DL.vChain, DL.rEqS, DL.rNeS, DL.rIx, DL.vIx, DL.vNoPart, DL.isI, DL.vPart, DL.rSl, DL.vSl, DL.vCB, DL.rLen, DL.rAbs, DL.rMax2, DL.rMin2, DL.rIntOf, DL.rListOf, DL.rTupleOf, DL.vNext, DL.vSeq, DL.vBreak, DL.vCont, DL.vNever, DL.vFrz, DL.vBor, DL.vBorT, DL.vSet, DL.vDrop, DL.vRet, DL.vRetN, DL.vIfS, DL.vNew, DL.vOwn, DL.isL, DL.isIn, DL.isOwnL, DL.vApp, DL.vSto, DL.gV, DL.gT, DL.vRng1, DL.vRng2, DL.vYes, DL.vLc, DL.vCall, DL.vAttr, DL.vIsi, DL.vMk0, DL.vMkX, endsD, List.getElem?_cons_zero, List.getElem?_cons_succ, List.set_cons_zero, List.set_cons_succ, frz, frz1, wipeS, setN, noOwn, DL.isNon, Bool.not_true, Bool.not_false, List.length_cons, List.length_nil, List.map_cons, List.map_nil]
      exact ⟨.inr (by decide), ⟨by decide, by decide, by omega⟩, hg1, _, _, _, _, rfl⟩
  · rintro ss ⟨f, a, b, c, rfl⟩
    dsimp only [DL.vAsg, DL.vFor, DL.vSeqI, DL.vNeg, DL.vPar, DL.vDct, DL.rMem, DL.vEnum, DL.vRepL, DL.vBoxI, DL.vBoxS, DL.vCells, DL.vPopOr, DL.vScr, DL.vV, DL.vC, DL.vOp, DL.isB, DL.vTest, DL.vAnd, DL.vOr, DL.vNot, DL.vAndV, DL.vOrV, DL.vNotV, DL.vIf, DL.isNon, DL.vIsN, DL.vNotN, DL.vNil, DL.vCons, DL.vTup, DL.vLst, DL.rAdd, DL.rSub, DL.rMul, DL.rInt, DL.rDiv, DL.rMod, DL.rPow, DL.rShl, DL.rLt, DL.rLe, DL.rGt, DL.rGe, DL.vChain, DL.rEqS, DL.rNeS, DL.rIx, DL.vIx, DL.vNoPart, DL.isI, DL.vPart, DL.rSl, DL.vSl, DL.vCB, DL.rLen, DL.rAbs, DL.rMax2, DL.rMin2, DL.rIntOf, DL.rListOf, DL.rTupleOf, DL.vNext, DL.vSeq, DL.vBreak, DL.vCont, DL.vNever, DL.vFrz, DL.vBor, DL.vBorT, DL.vSet, DL.vDrop, DL.vRet, DL.vRetN, DL.vIfS, DL.vNew, DL.vOwn, DL.isL, DL.isIn, DL.isOwnL, DL.vApp, DL.vSto, DL.gV, DL.gT, DL.vRng1, DL.vRng2, DL.vYes, DL.vLc, DL.vCall, DL.vAttr, DL.vIsi, DL.vMk0, DL.vMkX, endsD, List.getElem?_cons_zero, List.getElem?_cons_succ, List.set_cons_zero, List.set_cons_succ, frz, frz1, wipeS, setN, noOwn, DL.isNon, Bool.not_true, Bool.not_false, List.length_cons, List.length_nil, List.map_cons, List.map_nil]
    exact hq f
theorem ok_take {f : Addr} {fd : FuncData} (F : L2.Fun K "_law_take" "_law_take" s_law_take f fd) (M : MB mg) (F__law_mixed : FD Pr w K mg base "_law_mixed" 2 ["draw"] (spD P gpD 1 cMixed)) : FnG Pr w K mg base (L2.CX Pr w) 3 f fd ["draw", "amount"] (spD P gpD 2 cTake) := by
  have nd := sc_take.nd
  refine fnD (k := 2) F sc_take (fun g hgp cdv A outer s H E hr hgd => (ss_cons (s_if (t_cmp (o_eqS hr.units) (d_boxI 0 hgp num_rest hr.units) d_int (by rfl)) (ss_one (s_boxS 0 hgp num_rest hr.units (d_popOr 0 hgp hr.units (d_callF F__law_mixed (hr.mono (by decide)) hgd rfl hgp (a_cons (d_var 0) a_nil))))) ss_nil) (ss_cons (s_set 2 nd (d_op o_mod (d_callTy c_int rfl (M.b_int) (by first | rfl | decide +kernel) (a_cons (d_boxI 0 hgp num_rest hr.units) a_nil)) (d_var 1))) (ss_cons (s_boxS 0 hgp num_rest hr.units (d_op o_div (d_callTy c_int rfl (M.b_int) (by first | rfl | decide +kernel) (a_cons (d_boxI 0 hgp num_rest hr.units) a_nil)) (d_var 1))) (ss_one (s_ret (d_var 2))))))) ?_
  intro ds Qd Qx hl hc
  obtain ⟨n, rfl, h0, h1, hq⟩ := hc
  rw [show startS ["draw", "amount", "found"] [D.box 0, D.int n] = [.v (.box 0), .v (.int n), .u] from rfl]
  dsimp only [DL.vAsg, DL.vFor, DL.vSeqI, DL.vNeg, DL.vPar, DL.vDct, DL.rMem, DL.vEnum, DL.vRepL, DL.vBoxI, DL.vBoxS, DL.vCells, DL.vPopOr, DL.vScr, DL.vV, DL.vC, DL.vOp, DL.isB, DL.vTest, DL.vAnd, DL.vOr, DL.vNot, DL.vAndV, DL.vOrV, DL.vNotV, DL.vIf, DL.isNon, DL.vIsN, DL.vNotN, DL.vNil, DL.vCons, DL.vTup, DL.vLst, DL.rAdd, DL.rSub, DL.rMul, DL.rInt, DL.rDiv, DL.rMod, DL.rPow, DL.rShl, DL.rLt, DL.rLe, DL.rGt, DL.rGe, DL.vChain, DL.rEqS, DL.rNeS, DL.rIx, DL.vIx, DL.vNoPart, DL.isI, DL.vPart, DL.rSl, DL.vSl, DL.vCB, DL.rLen, DL.rAbs, DL.rMax2, DL.rMin2, DL.rIntOf, DL.rListOf, DL.rTupleOf, DL.vNext, DL.vSeq, DL.vBreak, DL.vCont, DL.vNever, DL.vFrz, DL.vBor, DL.vBorT, DL.vSet, DL.vDrop, DL.vRet, DL.vRetN, DL.vIfS, DL.vNew, DL.vOwn, DL.isL, DL.isIn, DL.isOwnL, DL.vApp, DL.vSto, DL.gV, DL.gT, DL.vRng1, DL.vRng2, DL.vYes, DL.vLc, DL.vCall, DL.vAttr, DL.vIsi, DL.vMk0, DL.vMkX, endsD, List.getElem?_cons_zero, List.getElem?_cons_succ, List.set_cons_zero, List.set_cons_succ, frz, frz1, wipeS, setN, noOwn, DL.isNon, Bool.not_true, Bool.not_false, List.length_cons, List.length_nil, List.map_cons, List.map_nil, cMixed]
  have fin : ∀ z : Int, Qd (.int (z % n)) := fun z => hq _ (Int.emod_nonneg _ (by omega)) (Int.emod_lt_of_pos _ h0)
  refine ⟨rfl, fun z => ?_⟩
  cases decide (z = 0) with
  | true => exact ⟨rfl, rfl, fun _ => ⟨rfl, fun y => ⟨h0, rfl, rfl, fun y2 => ⟨⟨h0, h1⟩, fin _⟩⟩⟩, rfl, rfl, fun _ => ⟨rfl, fun y => ⟨h0, rfl, rfl, fun y2 => ⟨⟨h0, h1⟩, fin _⟩⟩⟩⟩
  | false => exact ⟨rfl, fun y => ⟨h0, rfl, rfl, fun y2 => ⟨⟨h0, h1⟩, fin _⟩⟩⟩
theorem ok_pick {f : Addr} {fd : FuncData} (F : L2.Fun K "_law_pick" "_law_pick" s_law_pick f fd) (M : MB mg) (F__law_take : FD Pr w K mg base "_law_take" 3 ["draw", "amount"] (spD P gpD 2 cTake)) : FnG Pr w K mg base (L2.CX Pr w) 4 f fd ["draw", "some"] (spD P gpD 2 cPick) := by
  have nd := sc_pick.nd
  refine fnD (k := 3) F sc_pick (fun g hgp cdv A outer s H E hr hgd => (ss_one (s_ret (d_ix (d_var 1) (d_callF F__law_take (hr.mono (by decide)) hgd rfl hgp (a_cons (d_var 0) (a_cons (d_callB c_len rfl (M.b_len) (by first | rfl | decide +kernel) (a_cons (d_var 1) a_nil)) a_nil))))))) ?_
  intro ds Qd Qx hl hc
  obtain ⟨l, rfl, h0, h1, hq⟩ := hc
  rw [show startS ["draw", "some"] [D.box 0, D.lst l] = [.v (.box 0), .v (.lst l)] from rfl]
  dsimp only [DL.vAsg, DL.vFor, DL.vSeqI, DL.vNeg, DL.vPar, DL.vDct, DL.rMem, DL.vEnum, DL.vRepL, DL.vBoxI, DL.vBoxS, DL.vCells, DL.vPopOr, DL.vScr, DL.vV, DL.vC, DL.vOp, DL.isB, DL.vTest, DL.vAnd, DL.vOr, DL.vNot, DL.vAndV, DL.vOrV, DL.vNotV, DL.vIf, DL.isNon, DL.vIsN, DL.vNotN, DL.vNil, DL.vCons, DL.vTup, DL.vLst, DL.rAdd, DL.rSub, DL.rMul, DL.rInt, DL.rDiv, DL.rMod, DL.rPow, DL.rShl, DL.rLt, DL.rLe, DL.rGt, DL.rGe, DL.vChain, DL.rEqS, DL.rNeS, DL.rIx, DL.vIx, DL.vNoPart, DL.isI, DL.vPart, DL.rSl, DL.vSl, DL.vCB, DL.rLen, DL.rAbs, DL.rMax2, DL.rMin2, DL.rIntOf, DL.rListOf, DL.rTupleOf, DL.vNext, DL.vSeq, DL.vBreak, DL.vCont, DL.vNever, DL.vFrz, DL.vBor, DL.vBorT, DL.vSet, DL.vDrop, DL.vRet, DL.vRetN, DL.vIfS, DL.vNew, DL.vOwn, DL.isL, DL.isIn, DL.isOwnL, DL.vApp, DL.vSto, DL.gV, DL.gT, DL.vRng1, DL.vRng2, DL.vYes, DL.vLc, DL.vCall, DL.vAttr, DL.vIsi, DL.vMk0, DL.vMkX, endsD, List.getElem?_cons_zero, List.getElem?_cons_succ, List.set_cons_zero, List.set_cons_succ, frz, frz1, wipeS, setN, noOwn, DL.isNon, Bool.not_true, Bool.not_false, List.length_cons, List.length_nil, List.map_cons, List.map_nil, cTake]
  have hpos : 0 < l.length := List.length_pos_iff.mpr h0
  refine ⟨rfl, (l.length : Int), rfl, by omega, by omega, fun k k0 k1 => ?_⟩
  rw [show atI l k = _ from atI_nat k0 k1]
  exact hq _ (List.getElem_mem _)
theorem ok_begun {f : Addr} {fd : FuncData} (F : L2.Fun K "_law_begun" "_law_begun" s_law_begun f fd) (M : MB mg) : FnG Pr w K mg base (L2.CX Pr w) 2 f fd ["script"] (spBegun K P) := by
  have nd := sc_begun.nd
  refine fnG_of (k := 1) F sc_begun (fun vs H Q E ⟨a, ns, e, _⟩ => by rw [e]; rfl) fun cdv A outer s H vs Q E hr hgd hsp => ?_
  obtain ⟨a, ns, rfl, hS, hlen, hT, hq⟩ := hsp
  refine ⟨_, pss_cons (ps_upN (P := P) (gp := gpS K) fun g hgp => (na_lc 2 (own := [("grain", 1)]) rfl nd (i_scr 0 hgp) (blkOk_by (by rfl)) (fun _ _ _ _ _ => (g_name 1 nd (js := [1]))) (fun _ _ _ _ _ => (ts_one (t_cmp o_ge (d_callB c_abs rfl (M.b_abs) (by first | rfl | decide +kernel) (a_cons (d_var 1) a_nil)) (d_op o_pow d_int d_int) (by rfl)))) (fun _ _ _ _ _ => (d_op o_sub (d_callB c_abs rfl (M.b_abs) (by first | rfl | decide +kernel) (a_cons (d_var 1) a_nil)) (d_op o_pow d_int d_int))))) (pss_one (ps_ret (pe_disp (pps_cons pe_str (pv 2) (pps_cons pe_str pe_int (pps_cons pe_str (pe_upN (P := P) (gp := gpS K) fun g hgp => (n_lc (own := [("grain", 1)]) rfl nd (i_scr 0 hgp) (blkOk_by (by rfl)) (fun _ _ _ _ _ => (g_name 1 nd (js := [1]))) (fun _ _ _ _ _ => ts_nil) (fun _ _ _ _ _ => (d_callB c_abs rfl (M.b_abs) (by first | rfl | decide +kernel) (a_cons (d_var 1) a_nil))))) (pps_cons pe_str pe_int pps_nil)))) rfl rfl (by simp) (by decide)))), ?_⟩
  refine begun_read hS hlen hT (fun g hg σ H E H0 ss Q Kv S ht k => ⟨g, hg, E, H0, ss, Q, S, ht, k⟩) (fun g hg σ H E H0 ss Q Kv S ht k => ⟨g, hg, E, H0, ss, Q, S, ht, k⟩) ?_ ?_ hq
  · rintro ss rfl
    refine ⟨by simp [noOwn], rfl, fun ns hn => ⟨by rw [List.length_map]; omega, fun i acc => ∃ ls : List Int, acc = ls.map (fun z : Int => D.int z) ∧ ls.length ≤ i, ⟨[], rfl, Nat.le_refl _⟩, ?_, ?_⟩⟩
    · rintro i d acc hd ⟨ls, rfl, hl⟩
      rw [List.getElem?_map] at hd
      obtain ⟨y, _, rfl⟩ := Option.map_eq_some_iff.mp hd
      dsimp only [DL.vAsg, DL.vFor, DL.vSeqI, DL.vNeg, DL.vPar, DL.vDct, DL.rMem, DL.vEnum, DL.vRepL, DL.vBoxI, DL.vBoxS, DL.vCells, DL.vPopOr, DL.vScr, DL.vV, DL.vC, DL.vOp, DL.isB, DL.vTest, DL.vAnd, DL.vOr, DL.vNot, DL.vAndV, DL.vOrV, DL.vNotV, DL.vIf, DL.isNon, DL.vIsN, DL.vNotN, DL.vNil, DL.vCons, DL.vTup, DL.vLst, DL.rAdd, DL.rSub, DL.rMul, DL.rInt, DL.rDiv, DL.rMod, DL.rPow, DL.rShl, DL.rLt, DL.rLe, DL.rGt, DL.rGe, DL.vChain, DL.rEqS, DL.rNeS, DL.rIx, DL.vIx, DL.vNoPart, DL.isI, DL.vPart, DL.rSl, DL.vSl, DL.vCB, DL.rLen, DL.rAbs, DL.rMax2, DL.rMin2, DL.rIntOf, DL.rListOf, DL.rTupleOf, DL.vNext, DL.vSeq, DL.vBreak, DL.vCont, DL.vNever, DL.vFrz, DL.vBor, DL.vBorT, DL.vSet, DL.vDrop, DL.vRet, DL.vRetN, DL.vIfS, DL.vNew, DL.vOwn, DL.isL, DL.isIn, DL.isOwnL, DL.vApp, DL.vSto, DL.gV, DL.gT, DL.vRng1, DL.vRng2, DL.vYes, DL.vLc, DL.vCall, DL.vAttr, DL.vIsi, DL.vMk0, DL.vMkX, endsD, List.getElem?_cons_zero, List.getElem?_cons_succ, List.set_cons_zero, List.set_cons_succ, frz, frz1, wipeS, setN, noOwn, DL.isNon, Bool.not_true, Bool.not_false, List.length_cons, List.length_nil, List.map_cons, List.map_nil]
      refine ⟨⟨by decide, by decide, by decide⟩, ?_⟩
      dsimp only [DL.vAsg, DL.vFor, DL.vSeqI, DL.vNeg, DL.vPar, DL.vDct, DL.rMem, DL.vEnum, DL.vRepL, DL.vBoxI, DL.vBoxS, DL.vCells, DL.vPopOr, DL.vScr, DL.vV, DL.vC, DL.vOp, DL.isB, DL.vTest, DL.vAnd, DL.vOr, DL.vNot, DL.vAndV, DL.vOrV, DL.vNotV, DL.vIf, DL.isNon, DL.vIsN, DL.vNotN, DL.vNil, DL.vCons, DL.vTup, DL.vLst, DL.rAdd, DL.rSub, DL.rMul, DL.rInt, DL.rDiv, DL.rMod, DL.rPow, DL.rShl, DL.rLt, DL.rLe, DL.rGt, DL.rGe, DL.vChain, DL.rEqS, DL.rNeS, DL.rIx, DL.vIx, DL.vNoPart, DL.isI, DL.vPart, DL.rSl, DL.vSl, DL.vCB, DL.rLen, DL.rAbs, DL.rMax2, DL.rMin2, DL.rIntOf, DL.rListOf, DL.rTupleOf, DL.vNext, DL.vSeq, DL.vBreak, DL.vCont, DL.vNever, DL.vFrz, DL.vBor, DL.vBorT, DL.vSet, DL.vDrop, DL.vRet, DL.vRetN, DL.vIfS, DL.vNew, DL.vOwn, DL.isL, DL.isIn, DL.isOwnL, DL.vApp, DL.vSto, DL.gV, DL.gT, DL.vRng1, DL.vRng2, DL.vYes, DL.vLc, DL.vCall, DL.vAttr, DL.vIsi, DL.vMk0, DL.vMkX, endsD, List.getElem?_cons_zero, List.getElem?_cons_succ, List.set_cons_zero, List.set_cons_succ, frz, frz1, wipeS, setN, noOwn, DL.isNon, Bool.not_true, Bool.not_false, List.length_cons, List.length_nil, List.map_cons, List.map_nil]
      refine ⟨trivial, mb _ (fun _ => ?_) (fun _ => ?_)⟩
      · try dsimp only [DL.vAsg, DL.vFor, DL.vSeqI, DL.vNeg, DL.vPar, DL.vDct, DL.rMem, DL.vEnum, DL.vRepL, DL.vBoxI, DL.vBoxS, DL.vCells, DL.vPopOr, DL.vScr, DL.vV, DL.vC, DL.vOp, DL.isB, DL.vTest, DL.vAnd, DL.vOr, DL.vNot, DL.vAndV, DL.vOrV, DL.vNotV, DL.vIf, DL.isNon, DL.vIsN, DL.vNotN, DL.vNil, DL.vCons, DL.vTup, DL.vLst, DL.rAdd, DL.rSub, DL.rMul, DL.rInt, DL.rDiv, DL.rMod, DL.rPow, DL.rShl, DL.rLt, DL.rLe, DL.rGt, DL.rGe, DL.vChain, DL.rEqS, DL.rNeS, DL.rIx, DL.vIx, DL.vNoPart, DL.isI, DL.vPart, DL.rSl, DL.vSl, DL.vCB, DL.rLen, DL.rAbs, DL.rMax2, DL.rMin2, DL.rIntOf, DL.rListOf, DL.rTupleOf, DL.vNext, DL.vSeq, DL.vBreak, DL.vCont, DL.vNever, DL.vFrz, DL.vBor, DL.vBorT, DL.vSet, DL.vDrop, DL.vRet, DL.vRetN, DL.vIfS, DL.vNew, DL.vOwn, DL.isL, DL.isIn, DL.isOwnL, DL.vApp, DL.vSto, DL.gV, DL.gT, DL.vRng1, DL.vRng2, DL.vYes, DL.vLc, DL.vCall, DL.vAttr, DL.vIsi, DL.vMk0, DL.vMkX, endsD, List.getElem?_cons_zero, List.getElem?_cons_succ, List.set_cons_zero, List.set_cons_succ, frz, frz1, wipeS, setN, noOwn, DL.isNon, Bool.not_true, Bool.not_false, List.length_cons, List.length_nil, List.map_cons, List.map_nil]
        exact ⟨⟨by decide, by decide, by decide⟩, ls ++ [_], by rw [List.map_append]; rfl, by rw [List.length_append]; exact Nat.succ_le_succ hl⟩
      · exact ⟨ls, rfl, by omega⟩
    · rintro acc ⟨ls, rfl, hl⟩
      rw [List.length_map] at hl
      exact ⟨ls, rfl, by omega⟩
  · rintro ss rfl
    refine ⟨by simp [noOwn], rfl, fun ns hn => ⟨by rw [List.length_map]; omega, fun i acc => ∃ ls : List Int, acc = ls.map (fun z : Int => D.int z) ∧ ls.length ≤ i, ⟨[], rfl, Nat.le_refl _⟩, ?_, ?_⟩⟩
    · rintro i d acc hd ⟨ls, rfl, hl⟩
      rw [List.getElem?_map] at hd
      obtain ⟨y, _, rfl⟩ := Option.map_eq_some_iff.mp hd
      dsimp only [DL.vAsg, DL.vFor, DL.vSeqI, DL.vNeg, DL.vPar, DL.vDct, DL.rMem, DL.vEnum, DL.vRepL, DL.vBoxI, DL.vBoxS, DL.vCells, DL.vPopOr, DL.vScr, DL.vV, DL.vC, DL.vOp, DL.isB, DL.vTest, DL.vAnd, DL.vOr, DL.vNot, DL.vAndV, DL.vOrV, DL.vNotV, DL.vIf, DL.isNon, DL.vIsN, DL.vNotN, DL.vNil, DL.vCons, DL.vTup, DL.vLst, DL.rAdd, DL.rSub, DL.rMul, DL.rInt, DL.rDiv, DL.rMod, DL.rPow, DL.rShl, DL.rLt, DL.rLe, DL.rGt, DL.rGe, DL.vChain, DL.rEqS, DL.rNeS, DL.rIx, DL.vIx, DL.vNoPart, DL.isI, DL.vPart, DL.rSl, DL.vSl, DL.vCB, DL.rLen, DL.rAbs, DL.rMax2, DL.rMin2, DL.rIntOf, DL.rListOf, DL.rTupleOf, DL.vNext, DL.vSeq, DL.vBreak, DL.vCont, DL.vNever, DL.vFrz, DL.vBor, DL.vBorT, DL.vSet, DL.vDrop, DL.vRet, DL.vRetN, DL.vIfS, DL.vNew, DL.vOwn, DL.isL, DL.isIn, DL.isOwnL, DL.vApp, DL.vSto, DL.gV, DL.gT, DL.vRng1, DL.vRng2, DL.vYes, DL.vLc, DL.vCall, DL.vAttr, DL.vIsi, DL.vMk0, DL.vMkX, endsD, List.getElem?_cons_zero, List.getElem?_cons_succ, List.set_cons_zero, List.set_cons_succ, frz, frz1, wipeS, setN, noOwn, DL.isNon, Bool.not_true, Bool.not_false, List.length_cons, List.length_nil, List.map_cons, List.map_nil]
      exact ⟨ls ++ [_], by rw [List.map_append]; rfl, by rw [List.length_append]; exact Nat.succ_le_succ hl⟩
    · rintro acc ⟨ls, rfl, hl⟩
      rw [List.length_map] at hl
      exact ⟨ls, rfl, by omega⟩

end K00

set_option maxRecDepth 100000
set_option maxHeartbeats 8000000
namespace K00
open PySem PySem.Spec PyProof.Rows L2 LamX NdefX DLX DL
variable {Pr : Program} {w : World} {K : PySem.W.Frag} {mg : Str → Option Value} {base : Heap} {P : Gl0} {C : Nat → Addr} {CB : Addr}

/-! ### the errors -/
/-- the classes: C i the one that _law_kinds asks in the i-th place, CB BasisError -/
structure MC (Pr : Program) (w : World) (K : PySem.W.Frag) (mg : Str → Option Value) (base : Heap) (C : Nat → Addr) (CB : Addr) : Prop where
  c_BadBits : mg "BadBits" = some (.ref (C 0))
  x_BadBits : PySem.W.excIn K (C 0) [.type "ValueError", .type "Exception", .type "BaseException", .type "object"] "ValueError.__new__" = true
  k_BadBits : PySem.W.keepIn K (.ref (C 0)) = true
  c_NotFlat : mg "NotFlat" = some (.ref (C 1))
  x_NotFlat : PySem.W.excIn K (C 1) [.type "ValueError", .type "Exception", .type "BaseException", .type "object"] "ValueError.__new__" = true
  k_NotFlat : PySem.W.keepIn K (.ref (C 1)) = true
  c_BadChords : mg "BadChords" = some (.ref (C 2))
  x_BadChords : PySem.W.excIn K (C 2) [.type "ValueError", .type "Exception", .type "BaseException", .type "object"] "ValueError.__new__" = true
  k_BadChords : PySem.W.keepIn K (.ref (C 2)) = true
  c_BadMove : mg "BadMove" = some (.ref (C 3))
  x_BadMove : PySem.W.excIn K (C 3) [.type "ValueError", .type "Exception", .type "BaseException", .type "object"] "ValueError.__new__" = true
  k_BadMove : PySem.W.keepIn K (.ref (C 3)) = true
  c_NoSquare : mg "NoSquare" = some (.ref (C 4))
  x_NoSquare : PySem.W.excIn K (C 4) [.type "ValueError", .type "Exception", .type "BaseException", .type "object"] "ValueError.__new__" = true
  k_NoSquare : PySem.W.keepIn K (.ref (C 4)) = true
  c_BadSides : mg "BadSides" = some (.ref (C 5))
  x_BadSides : PySem.W.excIn K (C 5) [.type "ValueError", .type "Exception", .type "BaseException", .type "object"] "ValueError.__new__" = true
  k_BadSides : PySem.W.keepIn K (.ref (C 5)) = true
  c_BadEntries : mg "BadEntries" = some (.ref (C 6))
  x_BadEntries : PySem.W.excIn K (C 6) [.type "ValueError", .type "Exception", .type "BaseException", .type "object"] "ValueError.__new__" = true
  k_BadEntries : PySem.W.keepIn K (.ref (C 6)) = true
  c_BadEdit : mg "BadEdit" = some (.ref (C 7))
  x_BadEdit : PySem.W.excIn K (C 7) [.type "ValueError", .type "Exception", .type "BaseException", .type "object"] "ValueError.__new__" = true
  k_BadEdit : PySem.W.keepIn K (.ref (C 7)) = true
  c_BadQuestion : mg "BadQuestion" = some (.ref (C 8))
  x_BadQuestion : PySem.W.excIn K (C 8) [.type "ValueError", .type "Exception", .type "BaseException", .type "object"] "ValueError.__new__" = true
  k_BadQuestion : PySem.W.keepIn K (.ref (C 8)) = true
  c_BadDeed : mg "BadDeed" = some (.ref (C 9))
  x_BadDeed : PySem.W.excIn K (C 9) [.type "ValueError", .type "Exception", .type "BaseException", .type "object"] "ValueError.__new__" = true
  k_BadDeed : PySem.W.keepIn K (.ref (C 9)) = true
  c_BadBench : mg "BadBench" = some (.ref (C 10))
  x_BadBench : PySem.W.excIn K (C 10) [.type "ValueError", .type "Exception", .type "BaseException", .type "object"] "ValueError.__new__" = true
  k_BadBench : PySem.W.keepIn K (.ref (C 10)) = true
  c_BadLine : mg "BadLine" = some (.ref (C 11))
  x_BadLine : PySem.W.excIn K (C 11) [.type "ValueError", .type "Exception", .type "BaseException", .type "object"] "ValueError.__new__" = true
  k_BadLine : PySem.W.keepIn K (.ref (C 11)) = true
  c_BadTies : mg "BadTies" = some (.ref (C 12))
  x_BadTies : PySem.W.excIn K (C 12) [.type "ValueError", .type "Exception", .type "BaseException", .type "object"] "ValueError.__new__" = true
  k_BadTies : PySem.W.keepIn K (.ref (C 12)) = true
  c_BadRoad : mg "BadRoad" = some (.ref (C 13))
  x_BadRoad : PySem.W.excIn K (C 13) [.type "ValueError", .type "Exception", .type "BaseException", .type "object"] "ValueError.__new__" = true
  k_BadRoad : PySem.W.keepIn K (.ref (C 13)) = true
  c_NoEdge : mg "NoEdge" = some (.ref (C 14))
  x_NoEdge : PySem.W.excIn K (C 14) [.type "ValueError", .type "Exception", .type "BaseException", .type "object"] "ValueError.__new__" = true
  k_NoEdge : PySem.W.keepIn K (.ref (C 14)) = true
  c_BadCourse : mg "BadCourse" = some (.ref (C 15))
  x_BadCourse : PySem.W.excIn K (C 15) [.type "ValueError", .type "Exception", .type "BaseException", .type "object"] "ValueError.__new__" = true
  k_BadCourse : PySem.W.keepIn K (.ref (C 15)) = true
  c_BadNumber : mg "BadNumber" = some (.ref (C 16))
  i_BadNumber : OexD Pr w K mg base (C 16) "part" "part"
  a_BadNumber : PySem.W.findIn K (.ref (C 16)) "part" = some none
  c_BadRule : mg "BadRule" = some (.ref (C 17))
  i_BadRule : OexD Pr w K mg base (C 17) "part" "part"
  a_BadRule : PySem.W.findIn K (.ref (C 17)) "part" = some none
  c_BadWeb : mg "BadWeb" = some (.ref (C 18))
  i_BadWeb : OexD Pr w K mg base (C 18) "part" "part"
  a_BadWeb : PySem.W.findIn K (.ref (C 18)) "part" = some none
  c_TooMany : mg "TooMany" = some (.ref (C 19))
  i_TooMany : OexD Pr w K mg base (C 19) "most" "most"
  a_TooMany : PySem.W.findIn K (.ref (C 19)) "most" = some none
  c_BadAffine : mg "BadAffine" = some (.ref (C 20))
  i_BadAffine : OexD Pr w K mg base (C 20) "part" "part"
  a_BadAffine : PySem.W.findIn K (.ref (C 20)) "part" = some none
  c_BadProduct : mg "BadProduct" = some (.ref (C 21))
  i_BadProduct : OexD Pr w K mg base (C 21) "part" "part"
  a_BadProduct : PySem.W.findIn K (.ref (C 21)) "part" = some none
  c_NotAffine : mg "NotAffine" = some (.ref (C 22))
  i_NotAffine : OexD Pr w K mg base (C 22) "place" "place"
  a_NotAffine : PySem.W.findIn K (.ref (C 22)) "place" = some none
  c_NotProduct : mg "NotProduct" = some (.ref (C 23))
  i_NotProduct : OexD Pr w K mg base (C 23) "place" "place"
  a_NotProduct : PySem.W.findIn K (.ref (C 23)) "place" = some none
  c_NotShort : mg "NotShort" = some (.ref (C 24))
  i_NotShort : OexD Pr w K mg base (C 24) "place" "place"
  a_NotShort : PySem.W.findIn K (.ref (C 24)) "place" = some none
  c_NoClass : mg "NoClass" = some (.ref (C 25))
  i_NoClass : OexD Pr w K mg base (C 25) "place" "place"
  a_NoClass : PySem.W.findIn K (.ref (C 25)) "place" = some none
  c_BadForm : mg "BadForm" = some (.ref (C 26))
  i_BadForm : OexD Pr w K mg base (C 26) "part" "part"
  a_BadForm : PySem.W.findIn K (.ref (C 26)) "part" = some none
  c_BadGate : mg "BadGate" = some (.ref (C 27))
  i_BadGate : OexD Pr w K mg base (C 27) "part" "part"
  a_BadGate : PySem.W.findIn K (.ref (C 27)) "part" = some none
  c_BadBasis : mg "BadBasis" = some (.ref (C 28))
  i_BadBasis : OexD Pr w K mg base (C 28) "part" "part"
  a_BadBasis : PySem.W.findIn K (.ref (C 28)) "part" = some none
  c_BadLot : mg "BadLot" = some (.ref (C 29))
  i_BadLot : OexD Pr w K mg base (C 29) "part" "part"
  a_BadLot : PySem.W.findIn K (.ref (C 29)) "part" = some none
  c_BadFormula : mg "BadFormula" = some (.ref (C 30))
  i_BadFormula : OexD Pr w K mg base (C 30) "part" "part"
  a_BadFormula : PySem.W.findIn K (.ref (C 30)) "part" = some none
  c_BadText : mg "BadText" = some (.ref (C 31))
  i_BadText : OexD Pr w K mg base (C 31) "at" "at"
  a_BadText : PySem.W.findIn K (.ref (C 31)) "at" = some none
  c_NotLet : mg "NotLet" = some (.ref (C 32))
  i_NotLet : OexD Pr w K mg base (C 32) "why" "why"
  a_NotLet : PySem.W.findIn K (.ref (C 32)) "why" = some none
  c_BadDeedLine : mg "BadDeedLine" = some (.ref (C 33))
  i_BadDeedLine : OexD Pr w K mg base (C 33) "number" "number"
  a_BadDeedLine : PySem.W.findIn K (.ref (C 33)) "number" = some none
  c_NoForm : mg "NoForm" = some (.ref (C 34))
  i_NoForm : OexD Pr w K mg base (C 34) "place" "place"
  a_NoForm : PySem.W.findIn K (.ref (C 34)) "place" = some none
  c_BadLive : mg "BadLive" = some (.ref (C 35))
  i_BadLive : OexD Pr w K mg base (C 35) "part" "part"
  a_BadLive : PySem.W.findIn K (.ref (C 35)) "part" = some none
  c_BadLog : mg "BadLog" = some (.ref (C 36))
  i_BadLog : OexD Pr w K mg base (C 36) "at" "at"
  a_BadLog : PySem.W.findIn K (.ref (C 36)) "at" = some none
  c_BasisError : mg "BasisError" = some (.ref CB)
  x_BasisError : PySem.W.excIn K CB [.type "ValueError", .type "Exception", .type "BaseException", .type "object"] "ValueError.__new__" = true
  k_BasisError : PySem.W.keepIn K (.ref CB) = true
  all : ∀ i, i < 37 → ExcK K CB (C i)
  base' : ExcK K CB CB
  ne : ∀ i, i < 37 → C i ≠ CB
  inj : ∀ i j, i < 37 → j < 37 → C i = C j → i = j
  og : PySem.W.specialIn K (.builtin "object.__class__") "__get__" = some (some (.builtin "getset_descriptor.__get__"))
  ot : PySem.W.takesIn K (.builtin "object.__class__") = some true
def P0 (K : PySem.W.Frag) (C : Nat → Addr) (CB : Addr) : Gl0 where
  T := []
  S := fun _ => none
  insC := fun _ => False
  excC := fun c => c = CB ∨ ∃ i, i < 37 ∧ c = C i
  attr := fun c f => PySem.W.findIn K (.ref c) f = some none
  isa := PySem.W.kitOne K
  clsU := fun _ => False
variable {C : Nat → Addr} {CB : Addr}
theorem txt (MM : MC Pr w K mg base C CB) : Txt K (P0 K C CB) where
  isa := fun _ _ _ h => h
  ins := fun _ h => h.elim
  exc := fun c h => by
    rcases h with rfl | ⟨i, hi, rfl⟩
    · exact ⟨MM.base'.xf, MM.base'.exc MM.og MM.ot⟩
    · exact ⟨(MM.all i hi).xf, (MM.all i hi).exc MM.og MM.ot⟩
  attr := fun _ _ h => h
  og := MM.og
  ot := MM.ot
def anyL : List D := [.non, .bl false, .int (-5), .int (10 ^ 45), .str "", .str "wide", .str "two words", .lst [], .lst [.tup [.int 0, .int 2]], .tup [], .tup [.int 4], .dct [], .dct [(.str "a", .tup [.int 1])], .lst [.lst [.non]]]
def cAny : Ctr := fun ds Q _ => ds = [.box 0] ∧ ∀ d ∈ anyL, Q d
def kindsD (C : Nat → Addr) (c : Addr) : List D := (List.range 37).map fun i => D.bl (decide (c = C i))
def cKinds (C : Nat → Addr) (CB : Addr) : Ctr := fun ds Q _ => ∃ c fs, ds = [.exc c fs] ∧ (c = CB ∨ ∃ i, i < 37 ∧ c = C i) ∧ Q (.lst (kindsD C c))
def cPlain (C : Nat → Addr) : Ctr := fun ds Q _ => ∃ d, ds = [d] ∧ Q (.lst ((List.range 16).map fun i => D.exc (C i) []))
def attrs : List Str := ["part", "part", "part", "most", "part", "part", "place", "place", "place", "place", "part", "part", "part", "part", "part", "at", "why", "number", "place", "part", "at"]
def threeD (C : Nat → Addr) (d : D) : List D := (attrs.zipIdx 16).map fun p => D.tup [.exc (C p.2) [(p.1, d)], d, d]
def cErrs (C : Nat → Addr) : Ctr := fun ds Q _ => ∃ d, ds = [d] ∧ Q (.lst (threeD C d))
theorem sc_any : FnScope ["draw", "some"] ["draw"] (defScope s_law_any) := ⟨rfl, rfl, rfl, by decide +kernel, rfl, by decide +kernel, by decide +kernel⟩
theorem sc_kinds : FnScope ["error", "found"] ["error"] (defScope s_law_kinds) := ⟨rfl, rfl, rfl, by decide +kernel, rfl, by decide +kernel, by decide +kernel⟩
theorem sc_plain : FnScope ["words_here", "found"] ["words_here"] (defScope s_law_plain_errors) := ⟨rfl, rfl, rfl, by decide +kernel, rfl, by decide +kernel, by decide +kernel⟩
theorem sc_errs : FnScope ["each", "found"] ["each"] (defScope s_law_errors_of) := ⟨rfl, rfl, rfl, by decide +kernel, rfl, by decide +kernel, by decide +kernel⟩
theorem sc_law : FnScope ["script", "draw", "words_here", "each", "threes_here", "item", "errors_here", "spot", "error", "k", "base_here"] ["script"] (defScope s_law) := ⟨rfl, rfl, rfl, by decide +kernel, rfl, by decide +kernel, by decide +kernel⟩
theorem ok_any {f : Addr} {fd : FuncData} (F : L2.Fun K "_law_any" "_law_any" s_law_any f fd) (M : MB mg) (F__law_pick : FD Pr w K mg base "_law_pick" 4 ["draw", "some"] (spD P gpD 2 cPick)) : FnG Pr w K mg base (L2.CX Pr w) 5 f fd ["draw"] (spD P gpD 1 cAny) := by
  have nd := sc_any.nd
  refine fnD (k := 4) F sc_any (fun g hgp cdv A outer s H E hr hgd => (ss_cons (s_set 1 nd (d_lst (a_cons d_non (a_cons d_bl (a_cons (d_neg d_int) (a_cons (d_op o_pow d_int d_int) (a_cons d_str (a_cons d_str (a_cons d_str (a_cons (d_lst a_nil) (a_cons (d_lst (a_cons (d_tup (a_cons d_int (a_cons d_int a_nil))) a_nil)) (a_cons (d_tup a_nil) (a_cons (d_tup (a_cons d_int a_nil)) (a_cons d_dnew (a_cons (d_disp (dps_cons d_str (d_tup (a_cons d_int a_nil)) dps_nil)) (a_cons (d_lst (a_cons (d_lst (a_cons d_non a_nil)) a_nil)) a_nil)))))))))))))))) (ss_one (s_ret (d_callF F__law_pick (hr.mono (by decide)) hgd rfl hgp (a_cons (d_var 0) (a_cons (d_var 1) a_nil))))))) ?_
  intro ds Qd Qx hl hc
  obtain ⟨rfl, hq⟩ := hc
  rw [show startS ["draw", "some"] [D.box 0] = [.v (.box 0), .u] from rfl]
  dsimp only [DL.vAsg, DL.vFor, DL.vSeqI, DL.vNeg, DL.vPar, DL.vDct, DL.rMem, DL.vEnum, DL.vRepL, DL.vBoxI, DL.vBoxS, DL.vCells, DL.vPopOr, DL.vScr, DL.vV, DL.vC, DL.vOp, DL.isB, DL.vTest, DL.vAnd, DL.vOr, DL.vNot, DL.vAndV, DL.vOrV, DL.vNotV, DL.vIf, DL.isNon, DL.vIsN, DL.vNotN, DL.vNil, DL.vCons, DL.vTup, DL.vLst, DL.rAdd, DL.rSub, DL.rMul, DL.rInt, DL.rDiv, DL.rMod, DL.rPow, DL.rShl, DL.rLt, DL.rLe, DL.rGt, DL.rGe, DL.vChain, DL.rEqS, DL.rNeS, DL.rIx, DL.vIx, DL.vNoPart, DL.isI, DL.vPart, DL.rSl, DL.vSl, DL.vCB, DL.rLen, DL.rAbs, DL.rMax2, DL.rMin2, DL.rIntOf, DL.rListOf, DL.rTupleOf, DL.vNext, DL.vSeq, DL.vBreak, DL.vCont, DL.vNever, DL.vFrz, DL.vBor, DL.vBorT, DL.vSet, DL.vDrop, DL.vRet, DL.vRetN, DL.vIfS, DL.vNew, DL.vOwn, DL.isL, DL.isIn, DL.isOwnL, DL.vApp, DL.vSto, DL.gV, DL.gT, DL.vRng1, DL.vRng2, DL.vYes, DL.vLc, DL.vCall, DL.vAttr, DL.vIsi, DL.vMk0, DL.vMkX, endsD, List.getElem?_cons_zero, List.getElem?_cons_succ, List.set_cons_zero, List.set_cons_succ, frz, frz1, wipeS, setN, noOwn, DL.isNon, Bool.not_true, Bool.not_false, List.length_cons, List.length_nil, List.map_cons, List.map_nil, cPick]
  exact ⟨⟨by decide, by decide, by decide⟩, by decide, by decide, by decide, by decide, by decide, by decide, [.inr "a"], rfl, by simp, by decide, by decide, by decide, by decide, rfl, _, rfl, by simp, (show 14 < 1073741824 from by decide), fun d hd => hq d hd⟩
theorem le1000 {n : Nat} (h : n ≤ 1000) : n ≤ sizeLine := Nat.le_trans h (by decide)
theorem some1 {f : Str} {d : D} {Q : D → Prop} (h : Q d) : someD (([(f, d)] : List (Str × D)).lookup f) Q := by
  rw [List.lookup_cons, beq_self_eq_true]
  exact h

end K00

set_option maxRecDepth 100000
set_option maxHeartbeats 8000000
namespace K00
open PySem PySem.Spec PyProof.Rows L2 LamX NdefX DLX DL
variable {Pr : Program} {w : World} {K : PySem.W.Frag} {mg : Str → Option Value} {base : Heap} {P : Gl0} {C : Nat → Addr} {CB : Addr}
theorem ok_kinds {f : Addr} {fd : FuncData} (F : L2.Fun K "_law_kinds" "_law_kinds" s_law_kinds f fd) (M : MB mg) (MM : MC Pr w K mg base C CB) : FnG Pr w K mg base (L2.CX Pr w) 2 f fd ["error"] (spD (P0 K C CB) (fun _ => True) 1 (cKinds C CB)) := by
  have nd := sc_kinds.nd
  have T := txt MM
  refine fnD (k := 1) F sc_kinds (fun g hgp cdv A outer s H E hr hgd => (ss_cons (s_set 1 nd (d_lst a_nil)) (ss_cons (s_set 1 nd (d_op o_add (d_var 1) (d_lst (a_cons (d_isi T rfl (M.b_isinstance) (d_var 0) rfl (.own (MM.c_BadBits))) (a_cons (d_isi T rfl (M.b_isinstance) (d_var 0) rfl (.own (MM.c_NotFlat))) (a_cons (d_isi T rfl (M.b_isinstance) (d_var 0) rfl (.own (MM.c_BadChords))) a_nil)))))) (ss_cons (s_set 1 nd (d_op o_add (d_var 1) (d_lst (a_cons (d_isi T rfl (M.b_isinstance) (d_var 0) rfl (.own (MM.c_BadMove))) (a_cons (d_isi T rfl (M.b_isinstance) (d_var 0) rfl (.own (MM.c_NoSquare))) (a_cons (d_isi T rfl (M.b_isinstance) (d_var 0) rfl (.own (MM.c_BadSides))) a_nil)))))) (ss_cons (s_set 1 nd (d_op o_add (d_var 1) (d_lst (a_cons (d_isi T rfl (M.b_isinstance) (d_var 0) rfl (.own (MM.c_BadEntries))) (a_cons (d_isi T rfl (M.b_isinstance) (d_var 0) rfl (.own (MM.c_BadEdit))) a_nil))))) (ss_cons (s_set 1 nd (d_op o_add (d_var 1) (d_lst (a_cons (d_isi T rfl (M.b_isinstance) (d_var 0) rfl (.own (MM.c_BadQuestion))) (a_cons (d_isi T rfl (M.b_isinstance) (d_var 0) rfl (.own (MM.c_BadDeed))) (a_cons (d_isi T rfl (M.b_isinstance) (d_var 0) rfl (.own (MM.c_BadBench))) a_nil)))))) (ss_cons (s_set 1 nd (d_op o_add (d_var 1) (d_lst (a_cons (d_isi T rfl (M.b_isinstance) (d_var 0) rfl (.own (MM.c_BadLine))) (a_cons (d_isi T rfl (M.b_isinstance) (d_var 0) rfl (.own (MM.c_BadTies))) (a_cons (d_isi T rfl (M.b_isinstance) (d_var 0) rfl (.own (MM.c_BadRoad))) a_nil)))))) (ss_cons (s_set 1 nd (d_op o_add (d_var 1) (d_lst (a_cons (d_isi T rfl (M.b_isinstance) (d_var 0) rfl (.own (MM.c_NoEdge))) (a_cons (d_isi T rfl (M.b_isinstance) (d_var 0) rfl (.own (MM.c_BadCourse))) (a_cons (d_isi T rfl (M.b_isinstance) (d_var 0) rfl (.own (MM.c_BadNumber))) a_nil)))))) (ss_cons (s_set 1 nd (d_op o_add (d_var 1) (d_lst (a_cons (d_isi T rfl (M.b_isinstance) (d_var 0) rfl (.own (MM.c_BadRule))) (a_cons (d_isi T rfl (M.b_isinstance) (d_var 0) rfl (.own (MM.c_BadWeb))) (a_cons (d_isi T rfl (M.b_isinstance) (d_var 0) rfl (.own (MM.c_TooMany))) a_nil)))))) (ss_cons (s_set 1 nd (d_op o_add (d_var 1) (d_lst (a_cons (d_isi T rfl (M.b_isinstance) (d_var 0) rfl (.own (MM.c_BadAffine))) (a_cons (d_isi T rfl (M.b_isinstance) (d_var 0) rfl (.own (MM.c_BadProduct))) a_nil))))) (ss_cons (s_set 1 nd (d_op o_add (d_var 1) (d_lst (a_cons (d_isi T rfl (M.b_isinstance) (d_var 0) rfl (.own (MM.c_NotAffine))) (a_cons (d_isi T rfl (M.b_isinstance) (d_var 0) rfl (.own (MM.c_NotProduct))) (a_cons (d_isi T rfl (M.b_isinstance) (d_var 0) rfl (.own (MM.c_NotShort))) a_nil)))))) (ss_cons (s_set 1 nd (d_op o_add (d_var 1) (d_lst (a_cons (d_isi T rfl (M.b_isinstance) (d_var 0) rfl (.own (MM.c_NoClass))) (a_cons (d_isi T rfl (M.b_isinstance) (d_var 0) rfl (.own (MM.c_BadForm))) (a_cons (d_isi T rfl (M.b_isinstance) (d_var 0) rfl (.own (MM.c_BadGate))) a_nil)))))) (ss_cons (s_set 1 nd (d_op o_add (d_var 1) (d_lst (a_cons (d_isi T rfl (M.b_isinstance) (d_var 0) rfl (.own (MM.c_BadBasis))) (a_cons (d_isi T rfl (M.b_isinstance) (d_var 0) rfl (.own (MM.c_BadLot))) (a_cons (d_isi T rfl (M.b_isinstance) (d_var 0) rfl (.own (MM.c_BadFormula))) a_nil)))))) (ss_cons (s_set 1 nd (d_op o_add (d_var 1) (d_lst (a_cons (d_isi T rfl (M.b_isinstance) (d_var 0) rfl (.own (MM.c_BadText))) (a_cons (d_isi T rfl (M.b_isinstance) (d_var 0) rfl (.own (MM.c_NotLet))) (a_cons (d_isi T rfl (M.b_isinstance) (d_var 0) rfl (.own (MM.c_BadDeedLine))) a_nil)))))) (ss_cons (s_set 1 nd (d_op o_add (d_var 1) (d_lst (a_cons (d_isi T rfl (M.b_isinstance) (d_var 0) rfl (.own (MM.c_NoForm))) (a_cons (d_isi T rfl (M.b_isinstance) (d_var 0) rfl (.own (MM.c_BadLive))) (a_cons (d_isi T rfl (M.b_isinstance) (d_var 0) rfl (.own (MM.c_BadLog))) a_nil)))))) (ss_one (s_ret (d_var 1)))))))))))))))))) ?_
  intro ds Qd Qx hl hc
  obtain ⟨c, fs, rfl, hc, hq⟩ := hc
  have hcE : ExcK K CB c := by
    rcases hc with rfl | ⟨i, hi, rfl⟩
    · exact MM.base'
    · exact MM.all i hi
  have hk : ∀ i, i < 37 → (P0 K C CB).isa (.ref c) (.ref (C i)) = some (decide (c = C i)) := fun i hi => isa_cc hcE (MM.all i hi) (MM.ne i hi)
  rw [show startS ["error", "found"] [D.exc c fs] = [.v (.exc c fs), .u] from rfl]
  dsimp only [DL.vAsg, DL.vFor, DL.vSeqI, DL.vNeg, DL.vPar, DL.vDct, DL.rMem, DL.vEnum, DL.vRepL, DL.vBoxI, DL.vBoxS, DL.vCells, DL.vPopOr, DL.vScr, DL.vV, DL.vC, DL.vOp, DL.isB, DL.vTest, DL.vAnd, DL.vOr, DL.vNot, DL.vAndV, DL.vOrV, DL.vNotV, DL.vIf, DL.isNon, DL.vIsN, DL.vNotN, DL.vNil, DL.vCons, DL.vTup, DL.vLst, DL.rAdd, DL.rSub, DL.rMul, DL.rInt, DL.rDiv, DL.rMod, DL.rPow, DL.rShl, DL.rLt, DL.rLe, DL.rGt, DL.rGe, DL.vChain, DL.rEqS, DL.rNeS, DL.rIx, DL.vIx, DL.vNoPart, DL.isI, DL.vPart, DL.rSl, DL.vSl, DL.vCB, DL.rLen, DL.rAbs, DL.rMax2, DL.rMin2, DL.rIntOf, DL.rListOf, DL.rTupleOf, DL.vNext, DL.vSeq, DL.vBreak, DL.vCont, DL.vNever, DL.vFrz, DL.vBor, DL.vBorT, DL.vSet, DL.vDrop, DL.vRet, DL.vRetN, DL.vIfS, DL.vNew, DL.vOwn, DL.isL, DL.isIn, DL.isOwnL, DL.vApp, DL.vSto, DL.gV, DL.gT, DL.vRng1, DL.vRng2, DL.vYes, DL.vLc, DL.vCall, DL.vAttr, DL.vIsi, DL.vMk0, DL.vMkX, endsD, List.getElem?_cons_zero, List.getElem?_cons_succ, List.set_cons_zero, List.set_cons_succ, frz, frz1, wipeS, setN, noOwn, DL.isNon, Bool.not_true, Bool.not_false, List.length_cons, List.length_nil, List.map_cons, List.map_nil]
  refine ⟨by decide, ?_⟩
  refine ⟨hc, .ref c, _, rfl, hk 0 (by decide), ?_⟩
  refine ⟨hc, .ref c, _, rfl, hk 1 (by decide), ?_⟩
  refine ⟨hc, .ref c, _, rfl, hk 2 (by decide), ?_⟩
  refine ⟨by decide, le1000 (by simp), ?_⟩
  refine ⟨hc, .ref c, _, rfl, hk 3 (by decide), ?_⟩
  refine ⟨hc, .ref c, _, rfl, hk 4 (by decide), ?_⟩
  refine ⟨hc, .ref c, _, rfl, hk 5 (by decide), ?_⟩
  refine ⟨by decide, le1000 (by simp), ?_⟩
  refine ⟨hc, .ref c, _, rfl, hk 6 (by decide), ?_⟩
  refine ⟨hc, .ref c, _, rfl, hk 7 (by decide), ?_⟩
  refine ⟨by decide, le1000 (by simp), ?_⟩
  refine ⟨hc, .ref c, _, rfl, hk 8 (by decide), ?_⟩
  refine ⟨hc, .ref c, _, rfl, hk 9 (by decide), ?_⟩
  refine ⟨hc, .ref c, _, rfl, hk 10 (by decide), ?_⟩
  refine ⟨by decide, le1000 (by simp), ?_⟩
  refine ⟨hc, .ref c, _, rfl, hk 11 (by decide), ?_⟩
  refine ⟨hc, .ref c, _, rfl, hk 12 (by decide), ?_⟩
  refine ⟨hc, .ref c, _, rfl, hk 13 (by decide), ?_⟩
  refine ⟨by decide, le1000 (by simp), ?_⟩
  refine ⟨hc, .ref c, _, rfl, hk 14 (by decide), ?_⟩
  refine ⟨hc, .ref c, _, rfl, hk 15 (by decide), ?_⟩
  refine ⟨hc, .ref c, _, rfl, hk 16 (by decide), ?_⟩
  refine ⟨by decide, le1000 (by simp), ?_⟩
  refine ⟨hc, .ref c, _, rfl, hk 17 (by decide), ?_⟩
  refine ⟨hc, .ref c, _, rfl, hk 18 (by decide), ?_⟩
  refine ⟨hc, .ref c, _, rfl, hk 19 (by decide), ?_⟩
  refine ⟨by decide, le1000 (by simp), ?_⟩
  refine ⟨hc, .ref c, _, rfl, hk 20 (by decide), ?_⟩
  refine ⟨hc, .ref c, _, rfl, hk 21 (by decide), ?_⟩
  refine ⟨by decide, le1000 (by simp), ?_⟩
  refine ⟨hc, .ref c, _, rfl, hk 22 (by decide), ?_⟩
  refine ⟨hc, .ref c, _, rfl, hk 23 (by decide), ?_⟩
  refine ⟨hc, .ref c, _, rfl, hk 24 (by decide), ?_⟩
  refine ⟨by decide, le1000 (by simp), ?_⟩
  refine ⟨hc, .ref c, _, rfl, hk 25 (by decide), ?_⟩
  refine ⟨hc, .ref c, _, rfl, hk 26 (by decide), ?_⟩
  refine ⟨hc, .ref c, _, rfl, hk 27 (by decide), ?_⟩
  refine ⟨by decide, le1000 (by simp), ?_⟩
  refine ⟨hc, .ref c, _, rfl, hk 28 (by decide), ?_⟩
  refine ⟨hc, .ref c, _, rfl, hk 29 (by decide), ?_⟩
  refine ⟨hc, .ref c, _, rfl, hk 30 (by decide), ?_⟩
  refine ⟨by decide, le1000 (by simp), ?_⟩
  refine ⟨hc, .ref c, _, rfl, hk 31 (by decide), ?_⟩
  refine ⟨hc, .ref c, _, rfl, hk 32 (by decide), ?_⟩
  refine ⟨hc, .ref c, _, rfl, hk 33 (by decide), ?_⟩
  refine ⟨by decide, le1000 (by simp), ?_⟩
  refine ⟨hc, .ref c, _, rfl, hk 34 (by decide), ?_⟩
  refine ⟨hc, .ref c, _, rfl, hk 35 (by decide), ?_⟩
  refine ⟨hc, .ref c, _, rfl, hk 36 (by decide), ?_⟩
  refine ⟨by decide, le1000 (by simp), ?_⟩
  exact hq

end K00

set_option maxRecDepth 100000
set_option maxHeartbeats 8000000
namespace K00
open PySem PySem.Spec PyProof.Rows L2 LamX NdefX DLX DL
variable {Pr : Program} {w : World} {K : PySem.W.Frag} {mg : Str → Option Value} {base : Heap} {P : Gl0} {C : Nat → Addr} {CB : Addr}
theorem ok_plain {f : Addr} {fd : FuncData} (F : L2.Fun K "_law_plain_errors" "_law_plain_errors" s_law_plain_errors f fd) (MM : MC Pr w K mg base C CB) : FnG Pr w K mg base (L2.CX Pr w) 2 f fd ["words_here"] (spD (P0 K C CB) (fun _ => True) 1 (cPlain C)) := by
  have nd := sc_plain.nd
  refine fnD (k := 1) F sc_plain (fun g hgp cdv A outer s H E hr hgd => (ss_cons (s_set 1 nd (d_lst a_nil)) (ss_cons (s_set 1 nd (d_op o_add (d_var 1) (d_lst (a_cons (d_mk0 (MM.x_BadBits) rfl (MM.c_BadBits) (MM.k_BadBits) (d_var 0)) (a_cons (d_mk0 (MM.x_NotFlat) rfl (MM.c_NotFlat) (MM.k_NotFlat) (d_var 0)) (a_cons (d_mk0 (MM.x_BadChords) rfl (MM.c_BadChords) (MM.k_BadChords) (d_var 0)) (a_cons (d_mk0 (MM.x_BadMove) rfl (MM.c_BadMove) (MM.k_BadMove) (d_var 0)) a_nil))))))) (ss_cons (s_set 1 nd (d_op o_add (d_var 1) (d_lst (a_cons (d_mk0 (MM.x_NoSquare) rfl (MM.c_NoSquare) (MM.k_NoSquare) (d_var 0)) (a_cons (d_mk0 (MM.x_BadSides) rfl (MM.c_BadSides) (MM.k_BadSides) (d_var 0)) (a_cons (d_mk0 (MM.x_BadEntries) rfl (MM.c_BadEntries) (MM.k_BadEntries) (d_var 0)) (a_cons (d_mk0 (MM.x_BadEdit) rfl (MM.c_BadEdit) (MM.k_BadEdit) (d_var 0)) a_nil))))))) (ss_cons (s_set 1 nd (d_op o_add (d_var 1) (d_lst (a_cons (d_mk0 (MM.x_BadQuestion) rfl (MM.c_BadQuestion) (MM.k_BadQuestion) (d_var 0)) (a_cons (d_mk0 (MM.x_BadDeed) rfl (MM.c_BadDeed) (MM.k_BadDeed) (d_var 0)) (a_cons (d_mk0 (MM.x_BadBench) rfl (MM.c_BadBench) (MM.k_BadBench) (d_var 0)) (a_cons (d_mk0 (MM.x_BadLine) rfl (MM.c_BadLine) (MM.k_BadLine) (d_var 0)) a_nil))))))) (ss_cons (s_set 1 nd (d_op o_add (d_var 1) (d_lst (a_cons (d_mk0 (MM.x_BadTies) rfl (MM.c_BadTies) (MM.k_BadTies) (d_var 0)) (a_cons (d_mk0 (MM.x_BadRoad) rfl (MM.c_BadRoad) (MM.k_BadRoad) (d_var 0)) (a_cons (d_mk0 (MM.x_NoEdge) rfl (MM.c_NoEdge) (MM.k_NoEdge) (d_var 0)) (a_cons (d_mk0 (MM.x_BadCourse) rfl (MM.c_BadCourse) (MM.k_BadCourse) (d_var 0)) a_nil))))))) (ss_one (s_ret (d_var 1))))))))) ?_
  intro ds Qd Qx hl hc
  obtain ⟨d, rfl, hq⟩ := hc
  rw [show startS ["words_here", "found"] [d] = [.v d, .u] from rfl]
  dsimp only [DL.vAsg, DL.vFor, DL.vSeqI, DL.vNeg, DL.vPar, DL.vDct, DL.rMem, DL.vEnum, DL.vRepL, DL.vBoxI, DL.vBoxS, DL.vCells, DL.vPopOr, DL.vScr, DL.vV, DL.vC, DL.vOp, DL.isB, DL.vTest, DL.vAnd, DL.vOr, DL.vNot, DL.vAndV, DL.vOrV, DL.vNotV, DL.vIf, DL.isNon, DL.vIsN, DL.vNotN, DL.vNil, DL.vCons, DL.vTup, DL.vLst, DL.rAdd, DL.rSub, DL.rMul, DL.rInt, DL.rDiv, DL.rMod, DL.rPow, DL.rShl, DL.rLt, DL.rLe, DL.rGt, DL.rGe, DL.vChain, DL.rEqS, DL.rNeS, DL.rIx, DL.vIx, DL.vNoPart, DL.isI, DL.vPart, DL.rSl, DL.vSl, DL.vCB, DL.rLen, DL.rAbs, DL.rMax2, DL.rMin2, DL.rIntOf, DL.rListOf, DL.rTupleOf, DL.vNext, DL.vSeq, DL.vBreak, DL.vCont, DL.vNever, DL.vFrz, DL.vBor, DL.vBorT, DL.vSet, DL.vDrop, DL.vRet, DL.vRetN, DL.vIfS, DL.vNew, DL.vOwn, DL.isL, DL.isIn, DL.isOwnL, DL.vApp, DL.vSto, DL.gV, DL.gT, DL.vRng1, DL.vRng2, DL.vYes, DL.vLc, DL.vCall, DL.vAttr, DL.vIsi, DL.vMk0, DL.vMkX, endsD, List.getElem?_cons_zero, List.getElem?_cons_succ, List.set_cons_zero, List.set_cons_succ, frz, frz1, wipeS, setN, noOwn, DL.isNon, Bool.not_true, Bool.not_false, List.length_cons, List.length_nil, List.map_cons, List.map_nil]
  exact ⟨by decide, by decide, le1000 (by simp), by decide, le1000 (by simp), by decide, le1000 (by simp), by decide, le1000 (by simp), hq⟩

end K00

set_option maxRecDepth 100000
set_option maxHeartbeats 8000000
namespace K00
open PySem PySem.Spec PyProof.Rows L2 LamX NdefX DLX DL
variable {Pr : Program} {w : World} {K : PySem.W.Frag} {mg : Str → Option Value} {base : Heap} {P : Gl0} {C : Nat → Addr} {CB : Addr}
theorem ok_errs {f : Addr} {fd : FuncData} (F : L2.Fun K "_law_errors_of" "_law_errors_of" s_law_errors_of f fd) (MM : MC Pr w K mg base C CB) : FnG Pr w K mg base (L2.CX Pr w) 2 f fd ["each"] (spD (P0 K C CB) (fun _ => True) 1 (cErrs C)) := by
  have nd := sc_errs.nd
  have T := txt MM
  refine fnD (k := 1) F sc_errs (fun g hgp cdv A outer s H E hr hgd => (ss_cons (s_own 1 nd (n_lst a_nil)) (ss_cons (s_append 1 (d_tup (a_cons (d_mkX (MM.i_BadNumber) (hr.mono (by decide)) rfl (MM.c_BadNumber) (d_var 0)) (a_cons (d_attr T (d_mkX (MM.i_BadNumber) (hr.mono (by decide)) rfl (MM.c_BadNumber) (d_var 0))) (a_cons (d_attr T (d_mkXK (MM.i_BadNumber) (hr.mono (by decide)) rfl (MM.c_BadNumber) (d_var 0))) a_nil))))) (ss_cons (s_append 1 (d_tup (a_cons (d_mkX (MM.i_BadRule) (hr.mono (by decide)) rfl (MM.c_BadRule) (d_var 0)) (a_cons (d_attr T (d_mkX (MM.i_BadRule) (hr.mono (by decide)) rfl (MM.c_BadRule) (d_var 0))) (a_cons (d_attr T (d_mkXK (MM.i_BadRule) (hr.mono (by decide)) rfl (MM.c_BadRule) (d_var 0))) a_nil))))) (ss_cons (s_append 1 (d_tup (a_cons (d_mkX (MM.i_BadWeb) (hr.mono (by decide)) rfl (MM.c_BadWeb) (d_var 0)) (a_cons (d_attr T (d_mkX (MM.i_BadWeb) (hr.mono (by decide)) rfl (MM.c_BadWeb) (d_var 0))) (a_cons (d_attr T (d_mkXK (MM.i_BadWeb) (hr.mono (by decide)) rfl (MM.c_BadWeb) (d_var 0))) a_nil))))) (ss_cons (s_append 1 (d_tup (a_cons (d_mkX (MM.i_TooMany) (hr.mono (by decide)) rfl (MM.c_TooMany) (d_var 0)) (a_cons (d_attr T (d_mkX (MM.i_TooMany) (hr.mono (by decide)) rfl (MM.c_TooMany) (d_var 0))) (a_cons (d_attr T (d_mkXK (MM.i_TooMany) (hr.mono (by decide)) rfl (MM.c_TooMany) (d_var 0))) a_nil))))) (ss_cons (s_append 1 (d_tup (a_cons (d_mkX (MM.i_BadAffine) (hr.mono (by decide)) rfl (MM.c_BadAffine) (d_var 0)) (a_cons (d_attr T (d_mkX (MM.i_BadAffine) (hr.mono (by decide)) rfl (MM.c_BadAffine) (d_var 0))) (a_cons (d_attr T (d_mkXK (MM.i_BadAffine) (hr.mono (by decide)) rfl (MM.c_BadAffine) (d_var 0))) a_nil))))) (ss_cons (s_append 1 (d_tup (a_cons (d_mkX (MM.i_BadProduct) (hr.mono (by decide)) rfl (MM.c_BadProduct) (d_var 0)) (a_cons (d_attr T (d_mkX (MM.i_BadProduct) (hr.mono (by decide)) rfl (MM.c_BadProduct) (d_var 0))) (a_cons (d_attr T (d_mkXK (MM.i_BadProduct) (hr.mono (by decide)) rfl (MM.c_BadProduct) (d_var 0))) a_nil))))) (ss_cons (s_append 1 (d_tup (a_cons (d_mkX (MM.i_NotAffine) (hr.mono (by decide)) rfl (MM.c_NotAffine) (d_var 0)) (a_cons (d_attr T (d_mkX (MM.i_NotAffine) (hr.mono (by decide)) rfl (MM.c_NotAffine) (d_var 0))) (a_cons (d_attr T (d_mkXK (MM.i_NotAffine) (hr.mono (by decide)) rfl (MM.c_NotAffine) (d_var 0))) a_nil))))) (ss_cons (s_append 1 (d_tup (a_cons (d_mkX (MM.i_NotProduct) (hr.mono (by decide)) rfl (MM.c_NotProduct) (d_var 0)) (a_cons (d_attr T (d_mkX (MM.i_NotProduct) (hr.mono (by decide)) rfl (MM.c_NotProduct) (d_var 0))) (a_cons (d_attr T (d_mkXK (MM.i_NotProduct) (hr.mono (by decide)) rfl (MM.c_NotProduct) (d_var 0))) a_nil))))) (ss_cons (s_append 1 (d_tup (a_cons (d_mkX (MM.i_NotShort) (hr.mono (by decide)) rfl (MM.c_NotShort) (d_var 0)) (a_cons (d_attr T (d_mkX (MM.i_NotShort) (hr.mono (by decide)) rfl (MM.c_NotShort) (d_var 0))) (a_cons (d_attr T (d_mkXK (MM.i_NotShort) (hr.mono (by decide)) rfl (MM.c_NotShort) (d_var 0))) a_nil))))) (ss_cons (s_append 1 (d_tup (a_cons (d_mkX (MM.i_NoClass) (hr.mono (by decide)) rfl (MM.c_NoClass) (d_var 0)) (a_cons (d_attr T (d_mkX (MM.i_NoClass) (hr.mono (by decide)) rfl (MM.c_NoClass) (d_var 0))) (a_cons (d_attr T (d_mkXK (MM.i_NoClass) (hr.mono (by decide)) rfl (MM.c_NoClass) (d_var 0))) a_nil))))) (ss_cons (s_append 1 (d_tup (a_cons (d_mkX (MM.i_BadForm) (hr.mono (by decide)) rfl (MM.c_BadForm) (d_var 0)) (a_cons (d_attr T (d_mkX (MM.i_BadForm) (hr.mono (by decide)) rfl (MM.c_BadForm) (d_var 0))) (a_cons (d_attr T (d_mkXK (MM.i_BadForm) (hr.mono (by decide)) rfl (MM.c_BadForm) (d_var 0))) a_nil))))) (ss_cons (s_append 1 (d_tup (a_cons (d_mkX (MM.i_BadGate) (hr.mono (by decide)) rfl (MM.c_BadGate) (d_var 0)) (a_cons (d_attr T (d_mkX (MM.i_BadGate) (hr.mono (by decide)) rfl (MM.c_BadGate) (d_var 0))) (a_cons (d_attr T (d_mkXK (MM.i_BadGate) (hr.mono (by decide)) rfl (MM.c_BadGate) (d_var 0))) a_nil))))) (ss_cons (s_append 1 (d_tup (a_cons (d_mkX (MM.i_BadBasis) (hr.mono (by decide)) rfl (MM.c_BadBasis) (d_var 0)) (a_cons (d_attr T (d_mkX (MM.i_BadBasis) (hr.mono (by decide)) rfl (MM.c_BadBasis) (d_var 0))) (a_cons (d_attr T (d_mkXK (MM.i_BadBasis) (hr.mono (by decide)) rfl (MM.c_BadBasis) (d_var 0))) a_nil))))) (ss_cons (s_append 1 (d_tup (a_cons (d_mkX (MM.i_BadLot) (hr.mono (by decide)) rfl (MM.c_BadLot) (d_var 0)) (a_cons (d_attr T (d_mkX (MM.i_BadLot) (hr.mono (by decide)) rfl (MM.c_BadLot) (d_var 0))) (a_cons (d_attr T (d_mkXK (MM.i_BadLot) (hr.mono (by decide)) rfl (MM.c_BadLot) (d_var 0))) a_nil))))) (ss_cons (s_append 1 (d_tup (a_cons (d_mkX (MM.i_BadFormula) (hr.mono (by decide)) rfl (MM.c_BadFormula) (d_var 0)) (a_cons (d_attr T (d_mkX (MM.i_BadFormula) (hr.mono (by decide)) rfl (MM.c_BadFormula) (d_var 0))) (a_cons (d_attr T (d_mkXK (MM.i_BadFormula) (hr.mono (by decide)) rfl (MM.c_BadFormula) (d_var 0))) a_nil))))) (ss_cons (s_append 1 (d_tup (a_cons (d_mkX (MM.i_BadText) (hr.mono (by decide)) rfl (MM.c_BadText) (d_var 0)) (a_cons (d_attr T (d_mkX (MM.i_BadText) (hr.mono (by decide)) rfl (MM.c_BadText) (d_var 0))) (a_cons (d_attr T (d_mkXK (MM.i_BadText) (hr.mono (by decide)) rfl (MM.c_BadText) (d_var 0))) a_nil))))) (ss_cons (s_append 1 (d_tup (a_cons (d_mkX (MM.i_NotLet) (hr.mono (by decide)) rfl (MM.c_NotLet) (d_var 0)) (a_cons (d_attr T (d_mkX (MM.i_NotLet) (hr.mono (by decide)) rfl (MM.c_NotLet) (d_var 0))) (a_cons (d_attr T (d_mkXK (MM.i_NotLet) (hr.mono (by decide)) rfl (MM.c_NotLet) (d_var 0))) a_nil))))) (ss_cons (s_append 1 (d_tup (a_cons (d_mkX (MM.i_BadDeedLine) (hr.mono (by decide)) rfl (MM.c_BadDeedLine) (d_var 0)) (a_cons (d_attr T (d_mkX (MM.i_BadDeedLine) (hr.mono (by decide)) rfl (MM.c_BadDeedLine) (d_var 0))) (a_cons (d_attr T (d_mkXK (MM.i_BadDeedLine) (hr.mono (by decide)) rfl (MM.c_BadDeedLine) (d_var 0))) a_nil))))) (ss_cons (s_append 1 (d_tup (a_cons (d_mkX (MM.i_NoForm) (hr.mono (by decide)) rfl (MM.c_NoForm) (d_var 0)) (a_cons (d_attr T (d_mkX (MM.i_NoForm) (hr.mono (by decide)) rfl (MM.c_NoForm) (d_var 0))) (a_cons (d_attr T (d_mkXK (MM.i_NoForm) (hr.mono (by decide)) rfl (MM.c_NoForm) (d_var 0))) a_nil))))) (ss_cons (s_append 1 (d_tup (a_cons (d_mkX (MM.i_BadLive) (hr.mono (by decide)) rfl (MM.c_BadLive) (d_var 0)) (a_cons (d_attr T (d_mkX (MM.i_BadLive) (hr.mono (by decide)) rfl (MM.c_BadLive) (d_var 0))) (a_cons (d_attr T (d_mkXK (MM.i_BadLive) (hr.mono (by decide)) rfl (MM.c_BadLive) (d_var 0))) a_nil))))) (ss_cons (s_append 1 (d_tup (a_cons (d_mkX (MM.i_BadLog) (hr.mono (by decide)) rfl (MM.c_BadLog) (d_var 0)) (a_cons (d_attr T (d_mkX (MM.i_BadLog) (hr.mono (by decide)) rfl (MM.c_BadLog) (d_var 0))) (a_cons (d_attr T (d_mkXK (MM.i_BadLog) (hr.mono (by decide)) rfl (MM.c_BadLog) (d_var 0))) a_nil))))) (ss_one (s_frz [1] (s_ret (d_var 1))))))))))))))))))))))))))) ?_
  intro ds Qd Qx hl hc
  obtain ⟨d, rfl, hq⟩ := hc
  rw [show startS ["each", "found"] [d] = [.v d, .u] from rfl]
  dsimp only [DL.vAsg, DL.vFor, DL.vSeqI, DL.vNeg, DL.vPar, DL.vDct, DL.rMem, DL.vEnum, DL.vRepL, DL.vBoxI, DL.vBoxS, DL.vCells, DL.vPopOr, DL.vScr, DL.vV, DL.vC, DL.vOp, DL.isB, DL.vTest, DL.vAnd, DL.vOr, DL.vNot, DL.vAndV, DL.vOrV, DL.vNotV, DL.vIf, DL.isNon, DL.vIsN, DL.vNotN, DL.vNil, DL.vCons, DL.vTup, DL.vLst, DL.rAdd, DL.rSub, DL.rMul, DL.rInt, DL.rDiv, DL.rMod, DL.rPow, DL.rShl, DL.rLt, DL.rLe, DL.rGt, DL.rGe, DL.vChain, DL.rEqS, DL.rNeS, DL.rIx, DL.vIx, DL.vNoPart, DL.isI, DL.vPart, DL.rSl, DL.vSl, DL.vCB, DL.rLen, DL.rAbs, DL.rMax2, DL.rMin2, DL.rIntOf, DL.rListOf, DL.rTupleOf, DL.vNext, DL.vSeq, DL.vBreak, DL.vCont, DL.vNever, DL.vFrz, DL.vBor, DL.vBorT, DL.vSet, DL.vDrop, DL.vRet, DL.vRetN, DL.vIfS, DL.vNew, DL.vOwn, DL.isL, DL.isIn, DL.isOwnL, DL.vApp, DL.vSto, DL.gV, DL.gT, DL.vRng1, DL.vRng2, DL.vYes, DL.vLc, DL.vCall, DL.vAttr, DL.vIsi, DL.vMk0, DL.vMkX, endsD, List.getElem?_cons_zero, List.getElem?_cons_succ, List.set_cons_zero, List.set_cons_succ, frz, frz1, wipeS, setN, noOwn, DL.isNon, Bool.not_true, Bool.not_false, List.length_cons, List.length_nil, List.map_cons, List.map_nil]
  refine ⟨by decide, ?_⟩
  refine ⟨.inr ⟨16, by decide, rfl⟩, MM.a_BadNumber, some1 ?_⟩
  refine ⟨.inr ⟨16, by decide, rfl⟩, MM.a_BadNumber, some1 ?_⟩
  refine ⟨by decide, by simp, ?_⟩
  refine ⟨.inr ⟨17, by decide, rfl⟩, MM.a_BadRule, some1 ?_⟩
  refine ⟨.inr ⟨17, by decide, rfl⟩, MM.a_BadRule, some1 ?_⟩
  refine ⟨by decide, by simp, ?_⟩
  refine ⟨.inr ⟨18, by decide, rfl⟩, MM.a_BadWeb, some1 ?_⟩
  refine ⟨.inr ⟨18, by decide, rfl⟩, MM.a_BadWeb, some1 ?_⟩
  refine ⟨by decide, by simp, ?_⟩
  refine ⟨.inr ⟨19, by decide, rfl⟩, MM.a_TooMany, some1 ?_⟩
  refine ⟨.inr ⟨19, by decide, rfl⟩, MM.a_TooMany, some1 ?_⟩
  refine ⟨by decide, by simp, ?_⟩
  refine ⟨.inr ⟨20, by decide, rfl⟩, MM.a_BadAffine, some1 ?_⟩
  refine ⟨.inr ⟨20, by decide, rfl⟩, MM.a_BadAffine, some1 ?_⟩
  refine ⟨by decide, by simp, ?_⟩
  refine ⟨.inr ⟨21, by decide, rfl⟩, MM.a_BadProduct, some1 ?_⟩
  refine ⟨.inr ⟨21, by decide, rfl⟩, MM.a_BadProduct, some1 ?_⟩
  refine ⟨by decide, by simp, ?_⟩
  refine ⟨.inr ⟨22, by decide, rfl⟩, MM.a_NotAffine, some1 ?_⟩
  refine ⟨.inr ⟨22, by decide, rfl⟩, MM.a_NotAffine, some1 ?_⟩
  refine ⟨by decide, by simp, ?_⟩
  refine ⟨.inr ⟨23, by decide, rfl⟩, MM.a_NotProduct, some1 ?_⟩
  refine ⟨.inr ⟨23, by decide, rfl⟩, MM.a_NotProduct, some1 ?_⟩
  refine ⟨by decide, by simp, ?_⟩
  refine ⟨.inr ⟨24, by decide, rfl⟩, MM.a_NotShort, some1 ?_⟩
  refine ⟨.inr ⟨24, by decide, rfl⟩, MM.a_NotShort, some1 ?_⟩
  refine ⟨by decide, by simp, ?_⟩
  refine ⟨.inr ⟨25, by decide, rfl⟩, MM.a_NoClass, some1 ?_⟩
  refine ⟨.inr ⟨25, by decide, rfl⟩, MM.a_NoClass, some1 ?_⟩
  refine ⟨by decide, by simp, ?_⟩
  refine ⟨.inr ⟨26, by decide, rfl⟩, MM.a_BadForm, some1 ?_⟩
  refine ⟨.inr ⟨26, by decide, rfl⟩, MM.a_BadForm, some1 ?_⟩
  refine ⟨by decide, by simp, ?_⟩
  refine ⟨.inr ⟨27, by decide, rfl⟩, MM.a_BadGate, some1 ?_⟩
  refine ⟨.inr ⟨27, by decide, rfl⟩, MM.a_BadGate, some1 ?_⟩
  refine ⟨by decide, by simp, ?_⟩
  refine ⟨.inr ⟨28, by decide, rfl⟩, MM.a_BadBasis, some1 ?_⟩
  refine ⟨.inr ⟨28, by decide, rfl⟩, MM.a_BadBasis, some1 ?_⟩
  refine ⟨by decide, by simp, ?_⟩
  refine ⟨.inr ⟨29, by decide, rfl⟩, MM.a_BadLot, some1 ?_⟩
  refine ⟨.inr ⟨29, by decide, rfl⟩, MM.a_BadLot, some1 ?_⟩
  refine ⟨by decide, by simp, ?_⟩
  refine ⟨.inr ⟨30, by decide, rfl⟩, MM.a_BadFormula, some1 ?_⟩
  refine ⟨.inr ⟨30, by decide, rfl⟩, MM.a_BadFormula, some1 ?_⟩
  refine ⟨by decide, by simp, ?_⟩
  refine ⟨.inr ⟨31, by decide, rfl⟩, MM.a_BadText, some1 ?_⟩
  refine ⟨.inr ⟨31, by decide, rfl⟩, MM.a_BadText, some1 ?_⟩
  refine ⟨by decide, by simp, ?_⟩
  refine ⟨.inr ⟨32, by decide, rfl⟩, MM.a_NotLet, some1 ?_⟩
  refine ⟨.inr ⟨32, by decide, rfl⟩, MM.a_NotLet, some1 ?_⟩
  refine ⟨by decide, by simp, ?_⟩
  refine ⟨.inr ⟨33, by decide, rfl⟩, MM.a_BadDeedLine, some1 ?_⟩
  refine ⟨.inr ⟨33, by decide, rfl⟩, MM.a_BadDeedLine, some1 ?_⟩
  refine ⟨by decide, by simp, ?_⟩
  refine ⟨.inr ⟨34, by decide, rfl⟩, MM.a_NoForm, some1 ?_⟩
  refine ⟨.inr ⟨34, by decide, rfl⟩, MM.a_NoForm, some1 ?_⟩
  refine ⟨by decide, by simp, ?_⟩
  refine ⟨.inr ⟨35, by decide, rfl⟩, MM.a_BadLive, some1 ?_⟩
  refine ⟨.inr ⟨35, by decide, rfl⟩, MM.a_BadLive, some1 ?_⟩
  refine ⟨by decide, by simp, ?_⟩
  refine ⟨.inr ⟨36, by decide, rfl⟩, MM.a_BadLog, some1 ?_⟩
  refine ⟨.inr ⟨36, by decide, rfl⟩, MM.a_BadLog, some1 ?_⟩
  refine ⟨by decide, by simp, ?_⟩
  exact hq

end K00

set_option maxRecDepth 100000
set_option maxHeartbeats 8000000
namespace K00
open PySem PySem.Spec PyProof.Rows L2 LamX NdefX DLX DL
variable {Pr : Program} {w : World} {K : PySem.W.Frag} {mg : Str → Option Value} {base : Heap} {P : Gl0} {C : Nat → Addr} {CB : Addr}
/-! ### plain facts -/
theorem toPyL_bls : ∀ bs : List Bool, toPyL (bs.map D.bl) = some (bs.map PyData.bool)
  | [] => rfl
  | b :: bs => by
    rw [List.map_cons, List.map_cons]
    simp only [toPyL, toPy, toPyL_bls bs]
theorem toPy_bls (bs : List Bool) : toPy (.lst (bs.map D.bl)) = some (.list (bs.map PyData.bool)) := by
  simp only [toPy, toPyL_bls bs]
  rfl
theorem lay_bls : ∀ bs : List Bool, PyData.canLayAll0 (bs.map PyData.bool) = true
  | [] => rfl
  | b :: bs => by
    simp only [List.map_cons, PyData.canLayAll0, PyData.canLay0, lay_bls bs]
    rfl
theorem dep_bls : ∀ bs : List Bool, PyData.depthAll (bs.map PyData.bool) = 0
  | [] => rfl
  | b :: bs => by
    simp only [List.map_cons, PyData.depthAll, PyData.depth, dep_bls bs]
    rfl
theorem shaped_bls (bs : List Bool) : SeqAt.shaped (.list (bs.map PyData.bool)) = true := by
  unfold SeqAt.shaped
  simp only [PyData.canLay0, PyData.depth, lay_bls, dep_bls]
  rfl
theorem eqv_refl_bls : ∀ bs : List Bool, PyData.eqvAll (bs.map PyData.bool) (bs.map PyData.bool) = true
  | [] => rfl
  | b :: bs => by
    simp only [List.map_cons, PyData.eqvAll, PyData.eqv, eqv_refl_bls bs]
    simp
theorem ne_same (bs : List Bool) {Q : D → Prop} (h : Q (.bl false)) : rNeS (.lst (bs.map D.bl)) (.lst (bs.map D.bl)) Q := by
  show DL.rNe (.lst (bs.map D.bl)) (.lst (bs.map D.bl)) Q
  unfold DL.rNe
  rw [toPy_bls]
  refine ⟨shaped_bls bs, shaped_bls bs, ?_⟩
  simp only [PyData.eqv, eqv_refl_bls]
  exact h
theorem ne_nil {Q : D → Prop} (h : Q (.bl false)) : rNeS (.lst []) (.lst []) Q := ne_same [] h
theorem ne_str {x : Str} {Q : D → Prop} (hx : SeqAt.shaped (.str x) = true) (h : Q (.bl false)) : rNeS (.str x) (.str x) Q := by
  show DL.rNe (.str x) (.str x) Q
  unfold DL.rNe
  simp only [toPy]
  refine ⟨hx, hx, ?_⟩
  simp only [PyData.eqv, beq_self_eq_true]
  exact h
theorem any_false : ∀ bs : List Bool, (∀ b ∈ bs, b = false) → ((bs.map PyData.bool).any fun z => PyData.eqv z (.bool true)) = false
  | [], _ => rfl
  | b :: bs, h => by
    rw [List.map_cons, List.any_cons, any_false bs fun x hx => h x (List.mem_cons_of_mem _ hx), h b List.mem_cons_self]
    rfl
theorem notIn_false (bs : List Bool) (hb : ∀ b ∈ bs, b = false) {Q : D → Prop} (h : Q (.bl true)) : rMem not (.bl true) (.lst (bs.map D.bl)) Q := by
  unfold DL.rMem
  rw [toPy_bls]
  simp only [toPy]
  refine ⟨rfl, shaped_bls bs, ?_⟩
  rw [any_false bs hb]
  exact h
theorem kindsD_eq (C : Nat → Addr) (c : Addr) : kindsD C c = ((List.range 37).map fun i => decide (c = C i)).map D.bl := by
  unfold kindsD
  rw [List.map_map]
  rfl
/-- the answers of repr, for the drawn values -/
def okPd (d : D) : Prop := ∃ ps, toPdL [d, d] = some ps ∧ (PyData.list ps).showable = true ∧ (PyData.hasDictAll ps = false ∨ noListL ps = true) ∧ (PyData.list ps).depth ≤ 60 ∧ (PyData.list ps).shown.length ≤ sizeLine ∧ SeqAt.shaped (.str (PyData.list ps).shown) = true
theorem any_pd : ∀ d ∈ anyL, okPd d := by
  intro d hd
  unfold anyL at hd
  simp only [List.mem_cons, List.not_mem_nil, or_false] at hd
  rcases hd with rfl | rfl | rfl | rfl | rfl | rfl | rfl | rfl | rfl | rfl | rfl | rfl | rfl | rfl
  all_goals first
    | exact ⟨_, rfl, by decide +kernel, .inl (by decide +kernel), by decide +kernel, by decide +kernel, by decide +kernel⟩
    | exact ⟨_, rfl, by decide +kernel, .inr (by decide +kernel), by decide +kernel, by decide +kernel, by decide +kernel⟩
def fst3 : D → D
  | .tup (a :: _) => a
  | d => d
theorem three_at {C : Nat → Addr} {d x : D} {i : Nat} (h : (threeD C d)[i]? = some x) : i < 21 ∧ ∃ fs, x = .tup [.exc (C (16 + i)) fs, d, d] := by
  unfold threeD at h
  rw [List.getElem?_map, List.getElem?_zipIdx] at h
  obtain ⟨p, h1, rfl⟩ := Option.map_eq_some_iff.mp h
  obtain ⟨f, h2, rfl⟩ := Option.map_eq_some_iff.mp h1
  have hi : i < attrs.length := (List.getElem?_eq_some_iff.mp h2).1
  exact ⟨hi, _, rfl⟩
def errL (C : Nat → Addr) (d : D) : List D := (List.range 16).map (fun i => D.exc (C i) []) ++ (threeD C d).map fst3
theorem err_at {C : Nat → Addr} {d x : D} {i : Nat} (h : (errL C d)[i]? = some x) : i < 37 ∧ ∃ fs, x = .exc (C i) fs := by
  unfold errL at h
  by_cases hi : i < 16
  · rw [List.getElem?_append_left (by rw [List.length_map, List.length_range]; exact hi), List.getElem?_map, List.getElem?_range hi] at h
    cases h
    exact ⟨by omega, _, rfl⟩
  · rw [List.getElem?_append_right (by rw [List.length_map, List.length_range]; omega), List.getElem?_map, List.length_map, List.length_range] at h
    obtain ⟨y, h1, rfl⟩ := Option.map_eq_some_iff.mp h
    obtain ⟨h2, fs, rfl⟩ := three_at h1
    refine ⟨by omega, fs, ?_⟩
    show D.exc (C (16 + (i - 16))) fs = _
    rw [show 16 + (i - 16) = i by omega]
theorem take_one {α : Type} {l : List α} {i : Nat} {x : α} (h : l[i]? = some x) : l.take (i + 1) = l.take i ++ [x] := by
  rw [List.take_succ, h]
  rfl

end K00

set_option maxRecDepth 100000
set_option maxHeartbeats 8000000
namespace K00
open PySem PySem.Spec PyProof.Rows L2 LamX NdefX DLX DL
variable {Pr : Program} {w : World} {K : PySem.W.Frag} {mg : Str → Option Value} {base : Heap} {P : Gl0} {C : Nat → Addr} {CB : Addr}
theorem ok_law {f : Addr} {fd : FuncData} (F : L2.Fun K "law" "law" s_law f fd) (M : MB mg) (MM : MC Pr w K mg base C CB)
    (F__law_begun : FD Pr w K mg base "_law_begun" 2 ["script"] (spBegun K (P0 K C CB))) (F__law_pick : FD Pr w K mg base "_law_pick" 4 ["draw", "some"] (spD (P0 K C CB) gpD 2 cPick)) (F__law_any : FD Pr w K mg base "_law_any" 5 ["draw"] (spD (P0 K C CB) gpD 1 cAny))
    (F__law_kinds : FD Pr w K mg base "_law_kinds" 2 ["error"] (spD (P0 K C CB) (fun _ => True) 1 (cKinds C CB))) (F__law_plain_errors : FD Pr w K mg base "_law_plain_errors" 2 ["words_here"] (spD (P0 K C CB) (fun _ => True) 1 (cPlain C))) (F__law_errors_of : FD Pr w K mg base "_law_errors_of" 2 ["each"] (spD (P0 K C CB) (fun _ => True) 1 (cErrs C))) :
    FnG Pr w K mg base (L2.CX Pr w) 6 f fd ["script"] (spLaw K (P0 K C CB)) := by
  have nd := sc_law.nd
  have T := txt MM
  refine fnG_of (k := 5) F sc_law (fun vs H Q E ⟨a, ns, e, _⟩ => by rw [e]; rfl) fun cdv A outer s H vs Q E hr hgd hsp => ?_
  obtain ⟨a, ns, rfl, hS, hlen, hT, hq⟩ := hsp
  refine ⟨_, pss_cons (ps_set (i := 1) nd rfl (Or.inl rfl) (pe_callF F__law_begun (hr.mono (by decide)) hgd rfl (pa_cons (pv 0) pa_nil))) (pss_box (P := P0 K C CB) fun g hgp => (ss_cons (s_asg (d_tup (a_cons (d_callF F__law_pick (hr.mono (by decide)) hgd rfl hgp (a_cons (d_var 1) (a_cons (d_lst (a_cons d_str (a_cons d_str (a_cons d_str a_nil)))) a_nil))) (a_cons (d_callF F__law_any (hr.mono (by decide)) hgd rfl hgp (a_cons (d_var 1) a_nil)) a_nil))) (g_two 2 3 rfl nd)) (ss_cons (s_set 4 nd (d_callF F__law_errors_of (hr.mono (by decide)) hgd rfl trivial (a_cons (d_var 3) a_nil))) (ss_cons (s_set 6 nd (d_op o_add (d_callF F__law_plain_errors (hr.mono (by decide)) hgd rfl trivial (a_cons (d_var 2) a_nil)) (DN.de (n_lc (own := [("item", 5)]) rfl nd (i_seq (d_var 4)) (blkOk_by (by rfl)) (fun _ _ _ _ _ => (g_name 5 nd (js := [5]))) (fun _ _ _ _ _ => ts_nil) (fun _ _ _ _ _ => (d_ix (d_var 5) d_int)))))) (ss_cons (s_for (passes_of rfl) rfl (i_enum rfl (M.b_enumerate) (a_cons (d_var 6) a_nil)) (g_two 7 8 rfl nd) (ss_cons (s_if (t_cmp (o_neS hr.units) (d_callF F__law_kinds (hr.mono (by decide)) hgd rfl trivial (a_cons (d_var 8) a_nil)) (DN.de (n_lc (own := [("k", 9)]) rfl nd (i_rng1 rfl (M.b_range) d_int) (blkOk_by (by rfl)) (fun _ _ _ _ _ => (g_name 9 nd (js := [9]))) (fun _ _ _ _ _ => ts_nil) (fun _ _ _ _ _ => (d_cmp (o_eqS hr.units) (d_var 9) (d_var 7) (by rfl))))) (by rfl)) (ss_one (s_ret d_bl)) ss_nil) (ss_one (s_if (DW.dt (w_or (t_not (t_val (d_isi T rfl (M.b_isinstance) (d_var 8) rfl (.own (MM.c_BasisError))))) (w_or1 (t_not (t_val (d_isi T rfl (M.b_isinstance) (d_var 8) rfl (.ty (M.b_ValueError) (by first | rfl | decide +kernel) (by decide)))))))) (ss_one (s_ret d_bl)) ss_nil)))) (ss_cons (s_if (t_cmp (o_neS hr.units) (DN.de (n_lc (own := [("item", 5)]) rfl nd (i_seq (d_var 4)) (blkOk_by (by rfl)) (fun _ _ _ _ _ => (g_name 5 nd (js := [5]))) (fun _ _ _ _ _ => (ts_one (t_cmp (o_neS hr.units) (d_repL (hr.mono (by decide)) hgd rfl (M.b_repr) (a_cons (d_ix (d_var 5) d_int) (a_cons (d_ix (d_var 5) d_int) a_nil))) (d_repL (hr.mono (by decide)) hgd rfl (M.b_repr) (a_cons (d_var 3) (a_cons (d_var 3) a_nil))) (by rfl)))) (fun _ _ _ _ _ => d_int))) (d_lst a_nil) (by rfl)) (ss_one (s_ret d_bl)) ss_nil) (ss_cons (s_set 10 nd (d_mk0 (MM.x_BasisError) rfl (MM.c_BasisError) (MM.k_BasisError) d_str)) (ss_one (s_ret (d_and (d_cmp (o_notIn (hu65 hr)) d_bl (d_callF F__law_kinds (hr.mono (by decide)) hgd rfl trivial (a_cons (d_var 10) a_nil)) (by rfl)) (d_one (d_isi T rfl (M.b_isinstance) (d_var 10) rfl (.ty (M.b_ValueError) (by first | rfl | decide +kernel) (by decide)))))))))))))), ?_⟩
  refine ⟨_, rfl, a, ns, rfl, hS, hlen, hT, fun r L Cc cells H' B => ?_⟩
  refine law_read (N := 9) B.inv B.tabs rfl ?_ hq
  dsimp only [List.replicate]
  dsimp only [DL.vAsg, DL.vFor, DL.vSeqI, DL.vNeg, DL.vPar, DL.vDct, DL.vEnum, DL.vRepL, DL.vBoxI, DL.vBoxS, DL.vCells, DL.vPopOr, DL.vScr, DL.vV, DL.vC, DL.vOp, DL.isB, DL.vTest, DL.vAnd, DL.vOr, DL.vNot, DL.vAndV, DL.vOrV, DL.vNotV, DL.vIf, DL.isNon, DL.vIsN, DL.vNotN, DL.vNil, DL.vCons, DL.vTup, DL.vLst, DL.rAdd, DL.rSub, DL.rMul, DL.rInt, DL.rDiv, DL.rMod, DL.rPow, DL.rShl, DL.rLt, DL.rLe, DL.rGt, DL.rGe, DL.vChain, DL.rIx, DL.vIx, DL.vNoPart, DL.isI, DL.vPart, DL.rSl, DL.vSl, DL.vCB, DL.rLen, DL.rAbs, DL.rMax2, DL.rMin2, DL.rIntOf, DL.rListOf, DL.rTupleOf, DL.vNext, DL.vSeq, DL.vBreak, DL.vCont, DL.vNever, DL.vFrz, DL.vBor, DL.vBorT, DL.vSet, DL.vDrop, DL.vRet, DL.vRetN, DL.vIfS, DL.vNew, DL.vOwn, DL.isL, DL.isIn, DL.isOwnL, DL.vApp, DL.vSto, DL.gV, DL.gT, DL.vRng1, DL.vRng2, DL.vYes, DL.vLc, DL.vCall, DL.vAttr, DL.vIsi, DL.vMk0, DL.vMkX, endsD, List.getElem?_cons_zero, List.getElem?_cons_succ, List.set_cons_zero, List.set_cons_succ, frz, frz1, wipeS, setN, noOwn, DL.isNon, Bool.not_true, Bool.not_false, List.length_cons, List.length_nil, List.map_cons, List.map_nil, cPick, cAny, cKinds, cPlain, cErrs]
  refine ⟨by decide, rfl, _, rfl, by simp, (show 3 < 1073741824 from by decide), fun wd _ => ⟨rfl, rfl, fun d hd => ?_⟩⟩
  refine ⟨by decide, rfl, rfl, d, rfl, rfl, wd, rfl, ⟨trivial, trivial⟩, ?_⟩
  -- the errors that are made with a value
  have l21 : (threeD C d).length = 21 := by unfold threeD; rw [List.length_map, List.length_zipIdx]; rfl
  refine ⟨by rw [l21]; decide, fun i acc => acc = ((threeD C d).take i).map fst3, rfl, ?_, ?_⟩
  · rintro i x acc hx rfl
    obtain ⟨h1, fs, rfl⟩ := three_at hx
    show ((threeD C d).take i).map fst3 ++ [_] = _
    rw [take_one hx, List.map_append]
    rfl
  · rintro acc rfl
    rw [List.take_length]
    have l37 : (errL C d).length = 37 := by unfold errL; rw [List.length_append, List.length_map, List.length_map, l21]; rfl
    refine ⟨by rw [List.length_map, List.length_map, l21]; decide, ?_⟩
    refine ⟨fun i ss => ∃ a b : Sl, ss = [.u, .v (.box 0), .v wd, .v d, .v (.lst (threeD C d)), .u, .v (.lst (errL C d)), a, b, .u, .u], ⟨_, _, rfl⟩, ?_, ?_⟩
    · rintro i x ss hx ⟨a, b, rfl⟩
      obtain ⟨e, he, rfl⟩ := enumD_get hx
      obtain ⟨hi, fs, rfl⟩ := err_at (C := C) (d := d) he
      have hcE := MM.all i hi
      refine ⟨rfl, rfl, C i, fs, rfl, .inr ⟨i, hi, rfl⟩, ⟨trivial, trivial⟩, ⟨by decide, by decide⟩, by rw [ints_len]; decide, fun k acc => acc = ((List.range k).map fun (j : Nat) => D.bl (decide ((j : Int) = (i : Int)))), rfl, ?_, ?_⟩
      · rintro k y acc hy rfl
        obtain ⟨hk, rfl⟩ := ints_get hy
        show ((List.range k).map fun (j : Nat) => D.bl (decide ((j : Int) = (i : Int)))) ++ [D.bl (decide ((0 : Int) + (k : Int) = i))] = _
        rw [List.range_succ, List.map_append, Int.zero_add]
        rfl
      · rintro acc rfl
        have e : ((List.range (intsD 0 (Int.toNat 37)).length).map fun (j : Nat) => D.bl (decide ((j : Int) = (i : Int)))) = ((List.range 37).map fun j => decide (C i = C j)).map D.bl := by
          rw [ints_len, List.map_map]
          apply List.map_congr_left
          intro j hj
          have hj' : j < 37 := List.mem_range.mp hj
          show D.bl (decide ((j : Int) = (i : Int))) = D.bl (decide (C i = C j))
          by_cases z : j = i
          · subst z
            simp
          · have z1 : ¬ C i = C j := fun q => z (MM.inj i j hi hj' q).symm
            have z2 : ¬ (j : Int) = i := by omega
            rw [decide_eq_false z1, decide_eq_false z2]
        rw [e, kindsD_eq]
        refine ne_same _ ?_
        refine ⟨.inr ⟨i, hi, rfl⟩, _, _, rfl, isa_cB hcE MM.base', ?_⟩
        refine ⟨.inr ⟨i, hi, rfl⟩, _, _, rfl, isa_cV hcE, ?_⟩
        exact ⟨_, _, rfl⟩
    · rintro ss ⟨a, b, rfl⟩
      dsimp only [DL.vAsg, DL.vFor, DL.vSeqI, DL.vNeg, DL.vPar, DL.vDct, DL.vEnum, DL.vRepL, DL.vBoxI, DL.vBoxS, DL.vCells, DL.vPopOr, DL.vScr, DL.vV, DL.vC, DL.vOp, DL.isB, DL.vTest, DL.vAnd, DL.vOr, DL.vNot, DL.vAndV, DL.vOrV, DL.vNotV, DL.vIf, DL.isNon, DL.vIsN, DL.vNotN, DL.vNil, DL.vCons, DL.vTup, DL.vLst, DL.rAdd, DL.rSub, DL.rMul, DL.rInt, DL.rDiv, DL.rMod, DL.rPow, DL.rShl, DL.rLt, DL.rLe, DL.rGt, DL.rGe, DL.vChain, DL.rIx, DL.vIx, DL.vNoPart, DL.isI, DL.vPart, DL.rSl, DL.vSl, DL.vCB, DL.rLen, DL.rAbs, DL.rMax2, DL.rMin2, DL.rIntOf, DL.rListOf, DL.rTupleOf, DL.vNext, DL.vSeq, DL.vBreak, DL.vCont, DL.vNever, DL.vFrz, DL.vBor, DL.vBorT, DL.vSet, DL.vDrop, DL.vRet, DL.vRetN, DL.vIfS, DL.vNew, DL.vOwn, DL.isL, DL.isIn, DL.isOwnL, DL.vApp, DL.vSto, DL.gV, DL.gT, DL.vRng1, DL.vRng2, DL.vYes, DL.vLc, DL.vCall, DL.vAttr, DL.vIsi, DL.vMk0, DL.vMkX, endsD, List.getElem?_cons_zero, List.getElem?_cons_succ, List.set_cons_zero, List.set_cons_succ, frz, frz1, wipeS, setN, noOwn, DL.isNon, Bool.not_true, Bool.not_false, List.length_cons, List.length_nil, List.map_cons, List.map_nil, cPick, cAny, cKinds, cPlain, cErrs]
      refine ⟨⟨trivial, trivial⟩, by rw [l21]; decide, fun i acc => acc = [], rfl, ?_, ?_⟩
      · rintro i x acc hx rfl
        obtain ⟨h1, fs, rfl⟩ := three_at hx
        obtain ⟨ps, p1, p2, p3, p4, p5, p6⟩ := any_pd d hd
        refine ⟨by decide, ps, p1, p2, p3, p4, p5, by decide, ps, p1, p2, p3, p4, p5, ?_⟩
        exact ne_str p6 rfl
      · rintro acc rfl
        refine ⟨by decide, ne_nil ?_⟩
        refine ⟨rfl, CB, [], rfl, .inl rfl, ?_⟩
        rw [kindsD_eq]
        refine notIn_false _ (fun b hb => ?_) ?_
        · obtain ⟨i, hi, rfl⟩ := List.mem_map.mp hb
          exact decide_eq_false fun z => MM.ne i (List.mem_range.mp hi) z.symm
        · exact ⟨.inl rfl, _, _, rfl, isa_cV MM.base', rfl⟩

end K00

set_option maxRecDepth 100000
set_option maxHeartbeats 8000000
namespace K00
open PySem PySem.Spec PyProof.Rows L2 LamX NdefX DLX DL
variable {Pr : Program} {w : World} {K : PySem.W.Frag} {mg : Str → Option Value} {base : Heap} {P : Gl0} {C : Nat → Addr} {CB : Addr}

/-! ### what the written part says, and the law -/
structure DefK (K : PySem.W.Frag) (x : Str) (st : Stmt) (f : Addr) (ps : List Str) : Prop where
  ex : ∃ fd : FuncData, L2.Fun K x x st f fd ∧ PySem.W.keepIn K (.ref f) = true ∧ Binds K fd ps []
def Cs : Nat → Addr := fun i => [79, 301, 313, 325, 337, 391, 445, 457, 490, 502, 514, 568, 580, 592, 604, 616, 46, 67, 100, 121, 142, 163, 184, 205, 226, 247, 268, 289, 358, 379, 412, 433, 478, 535, 556, 637, 658].getD i 0
theorem top_mk {n0 : Nat} {h : Heap} {fa : Addr} (KX : K.In h) (G : h.Ns mainGlobals mg) (hfa : mg "law" = some (.ref fa)) (hn0 : n0 ≤ 63)
    (b_abs : PySem.W.nsIn K mainGlobals "abs" = some none)
    (b_int : PySem.W.nsIn K mainGlobals "int" = some none)
    (b_len : PySem.W.nsIn K mainGlobals "len" = some none)
    (b_isinstance : PySem.W.nsIn K mainGlobals "isinstance" = some none)
    (b_enumerate : PySem.W.nsIn K mainGlobals "enumerate" = some none)
    (b_range : PySem.W.nsIn K mainGlobals "range" = some none)
    (b_repr : PySem.W.nsIn K mainGlobals "repr" = some none)
    (b_ValueError : PySem.W.nsIn K mainGlobals "ValueError" = some none)
    (m_BadBits : PySem.W.nsIn K mainGlobals "BadBits" = some (some (.ref 79)))
    (m_NotFlat : PySem.W.nsIn K mainGlobals "NotFlat" = some (some (.ref 301)))
    (m_BadChords : PySem.W.nsIn K mainGlobals "BadChords" = some (some (.ref 313)))
    (m_BadMove : PySem.W.nsIn K mainGlobals "BadMove" = some (some (.ref 325)))
    (m_NoSquare : PySem.W.nsIn K mainGlobals "NoSquare" = some (some (.ref 337)))
    (m_BadSides : PySem.W.nsIn K mainGlobals "BadSides" = some (some (.ref 391)))
    (m_BadEntries : PySem.W.nsIn K mainGlobals "BadEntries" = some (some (.ref 445)))
    (m_BadEdit : PySem.W.nsIn K mainGlobals "BadEdit" = some (some (.ref 457)))
    (m_BadQuestion : PySem.W.nsIn K mainGlobals "BadQuestion" = some (some (.ref 490)))
    (m_BadDeed : PySem.W.nsIn K mainGlobals "BadDeed" = some (some (.ref 502)))
    (m_BadBench : PySem.W.nsIn K mainGlobals "BadBench" = some (some (.ref 514)))
    (m_BadLine : PySem.W.nsIn K mainGlobals "BadLine" = some (some (.ref 568)))
    (m_BadTies : PySem.W.nsIn K mainGlobals "BadTies" = some (some (.ref 580)))
    (m_BadRoad : PySem.W.nsIn K mainGlobals "BadRoad" = some (some (.ref 592)))
    (m_NoEdge : PySem.W.nsIn K mainGlobals "NoEdge" = some (some (.ref 604)))
    (m_BadCourse : PySem.W.nsIn K mainGlobals "BadCourse" = some (some (.ref 616)))
    (m_BadNumber : PySem.W.nsIn K mainGlobals "BadNumber" = some (some (.ref 46)))
    (m_BadRule : PySem.W.nsIn K mainGlobals "BadRule" = some (some (.ref 67)))
    (m_BadWeb : PySem.W.nsIn K mainGlobals "BadWeb" = some (some (.ref 100)))
    (m_TooMany : PySem.W.nsIn K mainGlobals "TooMany" = some (some (.ref 121)))
    (m_BadAffine : PySem.W.nsIn K mainGlobals "BadAffine" = some (some (.ref 142)))
    (m_BadProduct : PySem.W.nsIn K mainGlobals "BadProduct" = some (some (.ref 163)))
    (m_NotAffine : PySem.W.nsIn K mainGlobals "NotAffine" = some (some (.ref 184)))
    (m_NotProduct : PySem.W.nsIn K mainGlobals "NotProduct" = some (some (.ref 205)))
    (m_NotShort : PySem.W.nsIn K mainGlobals "NotShort" = some (some (.ref 226)))
    (m_NoClass : PySem.W.nsIn K mainGlobals "NoClass" = some (some (.ref 247)))
    (m_BadForm : PySem.W.nsIn K mainGlobals "BadForm" = some (some (.ref 268)))
    (m_BadGate : PySem.W.nsIn K mainGlobals "BadGate" = some (some (.ref 289)))
    (m_BadBasis : PySem.W.nsIn K mainGlobals "BadBasis" = some (some (.ref 358)))
    (m_BadLot : PySem.W.nsIn K mainGlobals "BadLot" = some (some (.ref 379)))
    (m_BadFormula : PySem.W.nsIn K mainGlobals "BadFormula" = some (some (.ref 412)))
    (m_BadText : PySem.W.nsIn K mainGlobals "BadText" = some (some (.ref 433)))
    (m_NotLet : PySem.W.nsIn K mainGlobals "NotLet" = some (some (.ref 478)))
    (m_BadDeedLine : PySem.W.nsIn K mainGlobals "BadDeedLine" = some (some (.ref 535)))
    (m_NoForm : PySem.W.nsIn K mainGlobals "NoForm" = some (some (.ref 556)))
    (m_BadLive : PySem.W.nsIn K mainGlobals "BadLive" = some (some (.ref 637)))
    (m_BadLog : PySem.W.nsIn K mainGlobals "BadLog" = some (some (.ref 658)))
    (m_BasisError : PySem.W.nsIn K mainGlobals "BasisError" = some (some (.ref 24)))
    (e_BadBits : excKB K 24 79 = true)
    (e_NotFlat : excKB K 24 301 = true)
    (e_BadChords : excKB K 24 313 = true)
    (e_BadMove : excKB K 24 325 = true)
    (e_NoSquare : excKB K 24 337 = true)
    (e_BadSides : excKB K 24 391 = true)
    (e_BadEntries : excKB K 24 445 = true)
    (e_BadEdit : excKB K 24 457 = true)
    (e_BadQuestion : excKB K 24 490 = true)
    (e_BadDeed : excKB K 24 502 = true)
    (e_BadBench : excKB K 24 514 = true)
    (e_BadLine : excKB K 24 568 = true)
    (e_BadTies : excKB K 24 580 = true)
    (e_BadRoad : excKB K 24 592 = true)
    (e_NoEdge : excKB K 24 604 = true)
    (e_BadCourse : excKB K 24 616 = true)
    (e_BadNumber : excKB K 24 46 = true)
    (e_BadRule : excKB K 24 67 = true)
    (e_BadWeb : excKB K 24 100 = true)
    (e_TooMany : excKB K 24 121 = true)
    (e_BadAffine : excKB K 24 142 = true)
    (e_BadProduct : excKB K 24 163 = true)
    (e_NotAffine : excKB K 24 184 = true)
    (e_NotProduct : excKB K 24 205 = true)
    (e_NotShort : excKB K 24 226 = true)
    (e_NoClass : excKB K 24 247 = true)
    (e_BadForm : excKB K 24 268 = true)
    (e_BadGate : excKB K 24 289 = true)
    (e_BadBasis : excKB K 24 358 = true)
    (e_BadLot : excKB K 24 379 = true)
    (e_BadFormula : excKB K 24 412 = true)
    (e_BadText : excKB K 24 433 = true)
    (e_NotLet : excKB K 24 478 = true)
    (e_BadDeedLine : excKB K 24 535 = true)
    (e_NoForm : excKB K 24 556 = true)
    (e_BadLive : excKB K 24 637 = true)
    (e_BadLog : excKB K 24 658 = true)
    (e_BasisError : excKB K 24 24 = true)
    (x_BadBits : PySem.W.excIn K 79 [.type "ValueError", .type "Exception", .type "BaseException", .type "object"] "ValueError.__new__" = true) (k_BadBits : PySem.W.keepIn K (.ref 79) = true)
    (x_NotFlat : PySem.W.excIn K 301 [.type "ValueError", .type "Exception", .type "BaseException", .type "object"] "ValueError.__new__" = true) (k_NotFlat : PySem.W.keepIn K (.ref 301) = true)
    (x_BadChords : PySem.W.excIn K 313 [.type "ValueError", .type "Exception", .type "BaseException", .type "object"] "ValueError.__new__" = true) (k_BadChords : PySem.W.keepIn K (.ref 313) = true)
    (x_BadMove : PySem.W.excIn K 325 [.type "ValueError", .type "Exception", .type "BaseException", .type "object"] "ValueError.__new__" = true) (k_BadMove : PySem.W.keepIn K (.ref 325) = true)
    (x_NoSquare : PySem.W.excIn K 337 [.type "ValueError", .type "Exception", .type "BaseException", .type "object"] "ValueError.__new__" = true) (k_NoSquare : PySem.W.keepIn K (.ref 337) = true)
    (x_BadSides : PySem.W.excIn K 391 [.type "ValueError", .type "Exception", .type "BaseException", .type "object"] "ValueError.__new__" = true) (k_BadSides : PySem.W.keepIn K (.ref 391) = true)
    (x_BadEntries : PySem.W.excIn K 445 [.type "ValueError", .type "Exception", .type "BaseException", .type "object"] "ValueError.__new__" = true) (k_BadEntries : PySem.W.keepIn K (.ref 445) = true)
    (x_BadEdit : PySem.W.excIn K 457 [.type "ValueError", .type "Exception", .type "BaseException", .type "object"] "ValueError.__new__" = true) (k_BadEdit : PySem.W.keepIn K (.ref 457) = true)
    (x_BadQuestion : PySem.W.excIn K 490 [.type "ValueError", .type "Exception", .type "BaseException", .type "object"] "ValueError.__new__" = true) (k_BadQuestion : PySem.W.keepIn K (.ref 490) = true)
    (x_BadDeed : PySem.W.excIn K 502 [.type "ValueError", .type "Exception", .type "BaseException", .type "object"] "ValueError.__new__" = true) (k_BadDeed : PySem.W.keepIn K (.ref 502) = true)
    (x_BadBench : PySem.W.excIn K 514 [.type "ValueError", .type "Exception", .type "BaseException", .type "object"] "ValueError.__new__" = true) (k_BadBench : PySem.W.keepIn K (.ref 514) = true)
    (x_BadLine : PySem.W.excIn K 568 [.type "ValueError", .type "Exception", .type "BaseException", .type "object"] "ValueError.__new__" = true) (k_BadLine : PySem.W.keepIn K (.ref 568) = true)
    (x_BadTies : PySem.W.excIn K 580 [.type "ValueError", .type "Exception", .type "BaseException", .type "object"] "ValueError.__new__" = true) (k_BadTies : PySem.W.keepIn K (.ref 580) = true)
    (x_BadRoad : PySem.W.excIn K 592 [.type "ValueError", .type "Exception", .type "BaseException", .type "object"] "ValueError.__new__" = true) (k_BadRoad : PySem.W.keepIn K (.ref 592) = true)
    (x_NoEdge : PySem.W.excIn K 604 [.type "ValueError", .type "Exception", .type "BaseException", .type "object"] "ValueError.__new__" = true) (k_NoEdge : PySem.W.keepIn K (.ref 604) = true)
    (x_BadCourse : PySem.W.excIn K 616 [.type "ValueError", .type "Exception", .type "BaseException", .type "object"] "ValueError.__new__" = true) (k_BadCourse : PySem.W.keepIn K (.ref 616) = true)
    (x_BasisError : PySem.W.excIn K 24 [.type "ValueError", .type "Exception", .type "BaseException", .type "object"] "ValueError.__new__" = true) (k_BasisError : PySem.W.keepIn K (.ref 24) = true)
    (a_BadNumber : PySem.W.findIn K (.ref 46) "part" = some none) (o_BadNumber : ∀ base, OexD Pr w K mg base 46 "part" "part")
    (a_BadRule : PySem.W.findIn K (.ref 67) "part" = some none) (o_BadRule : ∀ base, OexD Pr w K mg base 67 "part" "part")
    (a_BadWeb : PySem.W.findIn K (.ref 100) "part" = some none) (o_BadWeb : ∀ base, OexD Pr w K mg base 100 "part" "part")
    (a_TooMany : PySem.W.findIn K (.ref 121) "most" = some none) (o_TooMany : ∀ base, OexD Pr w K mg base 121 "most" "most")
    (a_BadAffine : PySem.W.findIn K (.ref 142) "part" = some none) (o_BadAffine : ∀ base, OexD Pr w K mg base 142 "part" "part")
    (a_BadProduct : PySem.W.findIn K (.ref 163) "part" = some none) (o_BadProduct : ∀ base, OexD Pr w K mg base 163 "part" "part")
    (a_NotAffine : PySem.W.findIn K (.ref 184) "place" = some none) (o_NotAffine : ∀ base, OexD Pr w K mg base 184 "place" "place")
    (a_NotProduct : PySem.W.findIn K (.ref 205) "place" = some none) (o_NotProduct : ∀ base, OexD Pr w K mg base 205 "place" "place")
    (a_NotShort : PySem.W.findIn K (.ref 226) "place" = some none) (o_NotShort : ∀ base, OexD Pr w K mg base 226 "place" "place")
    (a_NoClass : PySem.W.findIn K (.ref 247) "place" = some none) (o_NoClass : ∀ base, OexD Pr w K mg base 247 "place" "place")
    (a_BadForm : PySem.W.findIn K (.ref 268) "part" = some none) (o_BadForm : ∀ base, OexD Pr w K mg base 268 "part" "part")
    (a_BadGate : PySem.W.findIn K (.ref 289) "part" = some none) (o_BadGate : ∀ base, OexD Pr w K mg base 289 "part" "part")
    (a_BadBasis : PySem.W.findIn K (.ref 358) "part" = some none) (o_BadBasis : ∀ base, OexD Pr w K mg base 358 "part" "part")
    (a_BadLot : PySem.W.findIn K (.ref 379) "part" = some none) (o_BadLot : ∀ base, OexD Pr w K mg base 379 "part" "part")
    (a_BadFormula : PySem.W.findIn K (.ref 412) "part" = some none) (o_BadFormula : ∀ base, OexD Pr w K mg base 412 "part" "part")
    (a_BadText : PySem.W.findIn K (.ref 433) "at" = some none) (o_BadText : ∀ base, OexD Pr w K mg base 433 "at" "at")
    (a_NotLet : PySem.W.findIn K (.ref 478) "why" = some none) (o_NotLet : ∀ base, OexD Pr w K mg base 478 "why" "why")
    (a_BadDeedLine : PySem.W.findIn K (.ref 535) "number" = some none) (o_BadDeedLine : ∀ base, OexD Pr w K mg base 535 "number" "number")
    (a_NoForm : PySem.W.findIn K (.ref 556) "place" = some none) (o_NoForm : ∀ base, OexD Pr w K mg base 556 "place" "place")
    (a_BadLive : PySem.W.findIn K (.ref 637) "part" = some none) (o_BadLive : ∀ base, OexD Pr w K mg base 637 "part" "part")
    (a_BadLog : PySem.W.findIn K (.ref 658) "at" = some none) (o_BadLog : ∀ base, OexD Pr w K mg base 658 "at" "at")
    (og : PySem.W.specialIn K (.builtin "object.__class__") "__get__" = some (some (.builtin "getset_descriptor.__get__"))) (ot : PySem.W.takesIn K (.builtin "object.__class__") = some true)
    (n_law_begun : PySem.W.nsIn K mainGlobals "_law_begun" = some (some (.ref 665))) (d_law_begun : DefK K "_law_begun" s_law_begun 665 ["script"])
    (n_law_mixed : PySem.W.nsIn K mainGlobals "_law_mixed" = some (some (.ref 672))) (d_law_mixed : DefK K "_law_mixed" s_law_mixed 672 ["draw"])
    (n_law_take : PySem.W.nsIn K mainGlobals "_law_take" = some (some (.ref 679))) (d_law_take : DefK K "_law_take" s_law_take 679 ["draw", "amount"])
    (n_law_pick : PySem.W.nsIn K mainGlobals "_law_pick" = some (some (.ref 686))) (d_law_pick : DefK K "_law_pick" s_law_pick 686 ["draw", "some"])
    (n_law_any : PySem.W.nsIn K mainGlobals "_law_any" = some (some (.ref 693))) (d_law_any : DefK K "_law_any" s_law_any 693 ["draw"])
    (n_law_kinds : PySem.W.nsIn K mainGlobals "_law_kinds" = some (some (.ref 700))) (d_law_kinds : DefK K "_law_kinds" s_law_kinds 700 ["error"])
    (n_law_plain_errors : PySem.W.nsIn K mainGlobals "_law_plain_errors" = some (some (.ref 707))) (d_law_plain_errors : DefK K "_law_plain_errors" s_law_plain_errors 707 ["words_here"])
    (n_law_errors_of : PySem.W.nsIn K mainGlobals "_law_errors_of" = some (some (.ref 714))) (d_law_errors_of : DefK K "_law_errors_of" s_law_errors_of 714 ["each"])
    (n_law : PySem.W.nsIn K mainGlobals "law" = some (some (.ref 719))) (d_law : DefK K "law" s_law 719 ["script"]) :
    ∃ (fd : FuncData) (sp : Sp), (∀ (s : Shared) (u : Value), BindsTo s fd ⟨[u], []⟩ [(("script" : Str), u)]) ∧ (∀ (H : Hp) (a : Addr) (ns : List Int), ns.length ≤ n0 → SqL K H a (ns.map V.int) → sp [.ref a] H (fun v _ => v = .bl true) fun _ _ _ => False) ∧
      ∀ base : Heap, K.In base → base.Ns mainGlobals mg → FnG Pr w K mg base (L2.CX Pr w) 6 fa fd ["script"] sp := by
  have e := hfa.symm.trans (PySem.W.mg_of KX G n_law)
  cases e
  have M : MB mg := ⟨PySem.W.mg_none_of KX G b_abs, PySem.W.mg_none_of KX G b_int, PySem.W.mg_none_of KX G b_len, PySem.W.mg_none_of KX G b_isinstance, PySem.W.mg_none_of KX G b_enumerate, PySem.W.mg_none_of KX G b_range, PySem.W.mg_none_of KX G b_repr, PySem.W.mg_none_of KX G b_ValueError⟩
  have cs : ∀ i, i < 37 → ExcK K 24 (Cs i) := fun i hi => by
    match i, hi with
    | 0, _ => exact excKB_ok e_BadBits
    | 1, _ => exact excKB_ok e_NotFlat
    | 2, _ => exact excKB_ok e_BadChords
    | 3, _ => exact excKB_ok e_BadMove
    | 4, _ => exact excKB_ok e_NoSquare
    | 5, _ => exact excKB_ok e_BadSides
    | 6, _ => exact excKB_ok e_BadEntries
    | 7, _ => exact excKB_ok e_BadEdit
    | 8, _ => exact excKB_ok e_BadQuestion
    | 9, _ => exact excKB_ok e_BadDeed
    | 10, _ => exact excKB_ok e_BadBench
    | 11, _ => exact excKB_ok e_BadLine
    | 12, _ => exact excKB_ok e_BadTies
    | 13, _ => exact excKB_ok e_BadRoad
    | 14, _ => exact excKB_ok e_NoEdge
    | 15, _ => exact excKB_ok e_BadCourse
    | 16, _ => exact excKB_ok e_BadNumber
    | 17, _ => exact excKB_ok e_BadRule
    | 18, _ => exact excKB_ok e_BadWeb
    | 19, _ => exact excKB_ok e_TooMany
    | 20, _ => exact excKB_ok e_BadAffine
    | 21, _ => exact excKB_ok e_BadProduct
    | 22, _ => exact excKB_ok e_NotAffine
    | 23, _ => exact excKB_ok e_NotProduct
    | 24, _ => exact excKB_ok e_NotShort
    | 25, _ => exact excKB_ok e_NoClass
    | 26, _ => exact excKB_ok e_BadForm
    | 27, _ => exact excKB_ok e_BadGate
    | 28, _ => exact excKB_ok e_BadBasis
    | 29, _ => exact excKB_ok e_BadLot
    | 30, _ => exact excKB_ok e_BadFormula
    | 31, _ => exact excKB_ok e_BadText
    | 32, _ => exact excKB_ok e_NotLet
    | 33, _ => exact excKB_ok e_BadDeedLine
    | 34, _ => exact excKB_ok e_NoForm
    | 35, _ => exact excKB_ok e_BadLive
    | 36, _ => exact excKB_ok e_BadLog
    | i + 37, hi => exact absurd hi (by omega)
  have MM : ∀ base, MC Pr w K mg base Cs 24 := fun base => {
    c_BadBits := PySem.W.mg_of KX G m_BadBits
    x_BadBits := x_BadBits
    k_BadBits := k_BadBits
    c_NotFlat := PySem.W.mg_of KX G m_NotFlat
    x_NotFlat := x_NotFlat
    k_NotFlat := k_NotFlat
    c_BadChords := PySem.W.mg_of KX G m_BadChords
    x_BadChords := x_BadChords
    k_BadChords := k_BadChords
    c_BadMove := PySem.W.mg_of KX G m_BadMove
    x_BadMove := x_BadMove
    k_BadMove := k_BadMove
    c_NoSquare := PySem.W.mg_of KX G m_NoSquare
    x_NoSquare := x_NoSquare
    k_NoSquare := k_NoSquare
    c_BadSides := PySem.W.mg_of KX G m_BadSides
    x_BadSides := x_BadSides
    k_BadSides := k_BadSides
    c_BadEntries := PySem.W.mg_of KX G m_BadEntries
    x_BadEntries := x_BadEntries
    k_BadEntries := k_BadEntries
    c_BadEdit := PySem.W.mg_of KX G m_BadEdit
    x_BadEdit := x_BadEdit
    k_BadEdit := k_BadEdit
    c_BadQuestion := PySem.W.mg_of KX G m_BadQuestion
    x_BadQuestion := x_BadQuestion
    k_BadQuestion := k_BadQuestion
    c_BadDeed := PySem.W.mg_of KX G m_BadDeed
    x_BadDeed := x_BadDeed
    k_BadDeed := k_BadDeed
    c_BadBench := PySem.W.mg_of KX G m_BadBench
    x_BadBench := x_BadBench
    k_BadBench := k_BadBench
    c_BadLine := PySem.W.mg_of KX G m_BadLine
    x_BadLine := x_BadLine
    k_BadLine := k_BadLine
    c_BadTies := PySem.W.mg_of KX G m_BadTies
    x_BadTies := x_BadTies
    k_BadTies := k_BadTies
    c_BadRoad := PySem.W.mg_of KX G m_BadRoad
    x_BadRoad := x_BadRoad
    k_BadRoad := k_BadRoad
    c_NoEdge := PySem.W.mg_of KX G m_NoEdge
    x_NoEdge := x_NoEdge
    k_NoEdge := k_NoEdge
    c_BadCourse := PySem.W.mg_of KX G m_BadCourse
    x_BadCourse := x_BadCourse
    k_BadCourse := k_BadCourse
    c_BadNumber := PySem.W.mg_of KX G m_BadNumber
    i_BadNumber := o_BadNumber base
    a_BadNumber := a_BadNumber
    c_BadRule := PySem.W.mg_of KX G m_BadRule
    i_BadRule := o_BadRule base
    a_BadRule := a_BadRule
    c_BadWeb := PySem.W.mg_of KX G m_BadWeb
    i_BadWeb := o_BadWeb base
    a_BadWeb := a_BadWeb
    c_TooMany := PySem.W.mg_of KX G m_TooMany
    i_TooMany := o_TooMany base
    a_TooMany := a_TooMany
    c_BadAffine := PySem.W.mg_of KX G m_BadAffine
    i_BadAffine := o_BadAffine base
    a_BadAffine := a_BadAffine
    c_BadProduct := PySem.W.mg_of KX G m_BadProduct
    i_BadProduct := o_BadProduct base
    a_BadProduct := a_BadProduct
    c_NotAffine := PySem.W.mg_of KX G m_NotAffine
    i_NotAffine := o_NotAffine base
    a_NotAffine := a_NotAffine
    c_NotProduct := PySem.W.mg_of KX G m_NotProduct
    i_NotProduct := o_NotProduct base
    a_NotProduct := a_NotProduct
    c_NotShort := PySem.W.mg_of KX G m_NotShort
    i_NotShort := o_NotShort base
    a_NotShort := a_NotShort
    c_NoClass := PySem.W.mg_of KX G m_NoClass
    i_NoClass := o_NoClass base
    a_NoClass := a_NoClass
    c_BadForm := PySem.W.mg_of KX G m_BadForm
    i_BadForm := o_BadForm base
    a_BadForm := a_BadForm
    c_BadGate := PySem.W.mg_of KX G m_BadGate
    i_BadGate := o_BadGate base
    a_BadGate := a_BadGate
    c_BadBasis := PySem.W.mg_of KX G m_BadBasis
    i_BadBasis := o_BadBasis base
    a_BadBasis := a_BadBasis
    c_BadLot := PySem.W.mg_of KX G m_BadLot
    i_BadLot := o_BadLot base
    a_BadLot := a_BadLot
    c_BadFormula := PySem.W.mg_of KX G m_BadFormula
    i_BadFormula := o_BadFormula base
    a_BadFormula := a_BadFormula
    c_BadText := PySem.W.mg_of KX G m_BadText
    i_BadText := o_BadText base
    a_BadText := a_BadText
    c_NotLet := PySem.W.mg_of KX G m_NotLet
    i_NotLet := o_NotLet base
    a_NotLet := a_NotLet
    c_BadDeedLine := PySem.W.mg_of KX G m_BadDeedLine
    i_BadDeedLine := o_BadDeedLine base
    a_BadDeedLine := a_BadDeedLine
    c_NoForm := PySem.W.mg_of KX G m_NoForm
    i_NoForm := o_NoForm base
    a_NoForm := a_NoForm
    c_BadLive := PySem.W.mg_of KX G m_BadLive
    i_BadLive := o_BadLive base
    a_BadLive := a_BadLive
    c_BadLog := PySem.W.mg_of KX G m_BadLog
    i_BadLog := o_BadLog base
    a_BadLog := a_BadLog
    c_BasisError := PySem.W.mg_of KX G m_BasisError
    x_BasisError := x_BasisError
    k_BasisError := k_BasisError
    all := cs
    base' := excKB_ok e_BasisError
    ne := by decide
    inj := fun i j hi hj e => by
      have q : ∀ i j : Fin 37, Cs i.1 = Cs j.1 → i = j := by decide +kernel
      exact congrArg Fin.val (q ⟨i, hi⟩ ⟨j, hj⟩ e)
    og := og
    ot := ot }
  obtain ⟨fd_law_begun, F_law_begun, K_law_begun, B_law_begun⟩ := d_law_begun.ex
  obtain ⟨fd_law_mixed, F_law_mixed, K_law_mixed, B_law_mixed⟩ := d_law_mixed.ex
  obtain ⟨fd_law_take, F_law_take, K_law_take, B_law_take⟩ := d_law_take.ex
  obtain ⟨fd_law_pick, F_law_pick, K_law_pick, B_law_pick⟩ := d_law_pick.ex
  obtain ⟨fd_law_any, F_law_any, K_law_any, B_law_any⟩ := d_law_any.ex
  obtain ⟨fd_law_kinds, F_law_kinds, K_law_kinds, B_law_kinds⟩ := d_law_kinds.ex
  obtain ⟨fd_law_plain_errors, F_law_plain_errors, K_law_plain_errors, B_law_plain_errors⟩ := d_law_plain_errors.ex
  obtain ⟨fd_law_errors_of, F_law_errors_of, K_law_errors_of, B_law_errors_of⟩ := d_law_errors_of.ex
  obtain ⟨fd_law, F_law, K_law, B_law⟩ := d_law.ex
  refine ⟨fd_law, spLaw K (P0 K Cs 24), fun s u => ?_, fun H a ns hl hS => ⟨a, ns, rfl, hS, by omega, (fun x hx => by cases hx), fun _ => rfl⟩, fun base kin hns => ?_⟩
  · obtain ⟨oc, od, kV, doc, pm, an, cdv, ct, osl, rfl, lk, hcd⟩ := F_law.ex
    exact .of_eq rfl
  · have f_begun : FD Pr w K mg base "_law_begun" 2 ["script"] (spBegun K (P0 K Cs 24)) := ⟨_, _, PySem.W.mg_of KX G n_law_begun, K_law_begun, B_law_begun, ok_begun F_law_begun M⟩
    have f_mixed : FD Pr w K mg base "_law_mixed" 2 ["draw"] (spD (P0 K Cs 24) gpD 1 cMixed) := ⟨_, _, PySem.W.mg_of KX G n_law_mixed, K_law_mixed, B_law_mixed, ok_mixed F_law_mixed M⟩
    have f_take : FD Pr w K mg base "_law_take" 3 ["draw", "amount"] (spD (P0 K Cs 24) gpD 2 cTake) := ⟨_, _, PySem.W.mg_of KX G n_law_take, K_law_take, B_law_take, ok_take F_law_take M f_mixed⟩
    have f_pick : FD Pr w K mg base "_law_pick" 4 ["draw", "some"] (spD (P0 K Cs 24) gpD 2 cPick) := ⟨_, _, PySem.W.mg_of KX G n_law_pick, K_law_pick, B_law_pick, ok_pick F_law_pick M f_take⟩
    have f_any : FD Pr w K mg base "_law_any" 5 ["draw"] (spD (P0 K Cs 24) gpD 1 cAny) := ⟨_, _, PySem.W.mg_of KX G n_law_any, K_law_any, B_law_any, ok_any F_law_any M f_pick⟩
    have f_kinds : FD Pr w K mg base "_law_kinds" 2 ["error"] (spD (P0 K Cs 24) (fun _ => True) 1 (cKinds Cs 24)) := ⟨_, _, PySem.W.mg_of KX G n_law_kinds, K_law_kinds, B_law_kinds, ok_kinds F_law_kinds M (MM base)⟩
    have f_plain : FD Pr w K mg base "_law_plain_errors" 2 ["words_here"] (spD (P0 K Cs 24) (fun _ => True) 1 (cPlain Cs)) := ⟨_, _, PySem.W.mg_of KX G n_law_plain_errors, K_law_plain_errors, B_law_plain_errors, ok_plain F_law_plain_errors (MM base)⟩
    have f_errs : FD Pr w K mg base "_law_errors_of" 2 ["each"] (spD (P0 K Cs 24) (fun _ => True) 1 (cErrs Cs)) := ⟨_, _, PySem.W.mg_of KX G n_law_errors_of, K_law_errors_of, B_law_errors_of, ok_errs F_law_errors_of (MM base)⟩
    exact ok_law F_law M (MM base) f_begun f_pick f_any f_kinds f_plain f_errs

end K00

set_option maxRecDepth 100000
set_option maxHeartbeats 8000000
namespace K00
open PySem PySem.Spec PyProof.Rows L2 LamX NdefX DLX DL
variable {w : World} {K : PySem.W.Frag} {mg : Str → Option Value}
abbrev R : PySem.W.OpenRow := PySem.W.OpenLaw.row PySem.Challenge.rw_onebasis_k00_errors_of_all_parts
abbrev xi_BadNumber : XI := ⟨46, 43, 42, 31, "__init__", "BadNumber.__init__", s_BadNumber, "part"⟩
theorem xt_BadNumber : XIT xi_BadNumber "part" := ⟨⟨_, _, _, _, _, _, _, _, _, _, _, _, rfl, ⟨_, fun _ => rfl⟩, fun _ => rfl, fun _ => rfl⟩, ⟨_, rfl, rfl⟩, ⟨rfl, rfl, rfl, rfl, rfl, rfl, rfl, by decide +kernel, by decide +kernel, by decide +kernel⟩, fun _ _ _ _ _ => ⟨fun _ _ _ => .of_eq rfl, fun _ _ _ => .of_eq rfl⟩⟩
abbrev xi_BadRule : XI := ⟨67, 64, 63, 52, "__init__", "BadRule.__init__", s_BadRule, "part"⟩
theorem xt_BadRule : XIT xi_BadRule "part" := ⟨⟨_, _, _, _, _, _, _, _, _, _, _, _, rfl, ⟨_, fun _ => rfl⟩, fun _ => rfl, fun _ => rfl⟩, ⟨_, rfl, rfl⟩, ⟨rfl, rfl, rfl, rfl, rfl, rfl, rfl, by decide +kernel, by decide +kernel, by decide +kernel⟩, fun _ _ _ _ _ => ⟨fun _ _ _ => .of_eq rfl, fun _ _ _ => .of_eq rfl⟩⟩
abbrev xi_BadWeb : XI := ⟨100, 97, 96, 85, "__init__", "BadWeb.__init__", s_BadWeb, "part"⟩
theorem xt_BadWeb : XIT xi_BadWeb "part" := ⟨⟨_, _, _, _, _, _, _, _, _, _, _, _, rfl, ⟨_, fun _ => rfl⟩, fun _ => rfl, fun _ => rfl⟩, ⟨_, rfl, rfl⟩, ⟨rfl, rfl, rfl, rfl, rfl, rfl, rfl, by decide +kernel, by decide +kernel, by decide +kernel⟩, fun _ _ _ _ _ => ⟨fun _ _ _ => .of_eq rfl, fun _ _ _ => .of_eq rfl⟩⟩
abbrev xi_TooMany : XI := ⟨121, 118, 117, 106, "__init__", "TooMany.__init__", s_TooMany, "most"⟩
theorem xt_TooMany : XIT xi_TooMany "most" := ⟨⟨_, _, _, _, _, _, _, _, _, _, _, _, rfl, ⟨_, fun _ => rfl⟩, fun _ => rfl, fun _ => rfl⟩, ⟨_, rfl, rfl⟩, ⟨rfl, rfl, rfl, rfl, rfl, rfl, rfl, by decide +kernel, by decide +kernel, by decide +kernel⟩, fun _ _ _ _ _ => ⟨fun _ _ _ => .of_eq rfl, fun _ _ _ => .of_eq rfl⟩⟩
abbrev xi_BadAffine : XI := ⟨142, 139, 138, 127, "__init__", "BadAffine.__init__", s_BadAffine, "part"⟩
theorem xt_BadAffine : XIT xi_BadAffine "part" := ⟨⟨_, _, _, _, _, _, _, _, _, _, _, _, rfl, ⟨_, fun _ => rfl⟩, fun _ => rfl, fun _ => rfl⟩, ⟨_, rfl, rfl⟩, ⟨rfl, rfl, rfl, rfl, rfl, rfl, rfl, by decide +kernel, by decide +kernel, by decide +kernel⟩, fun _ _ _ _ _ => ⟨fun _ _ _ => .of_eq rfl, fun _ _ _ => .of_eq rfl⟩⟩
abbrev xi_BadProduct : XI := ⟨163, 160, 159, 148, "__init__", "BadProduct.__init__", s_BadProduct, "part"⟩
theorem xt_BadProduct : XIT xi_BadProduct "part" := ⟨⟨_, _, _, _, _, _, _, _, _, _, _, _, rfl, ⟨_, fun _ => rfl⟩, fun _ => rfl, fun _ => rfl⟩, ⟨_, rfl, rfl⟩, ⟨rfl, rfl, rfl, rfl, rfl, rfl, rfl, by decide +kernel, by decide +kernel, by decide +kernel⟩, fun _ _ _ _ _ => ⟨fun _ _ _ => .of_eq rfl, fun _ _ _ => .of_eq rfl⟩⟩
abbrev xi_NotAffine : XI := ⟨184, 181, 180, 169, "__init__", "NotAffine.__init__", s_NotAffine, "place"⟩
theorem xt_NotAffine : XIT xi_NotAffine "place" := ⟨⟨_, _, _, _, _, _, _, _, _, _, _, _, rfl, ⟨_, fun _ => rfl⟩, fun _ => rfl, fun _ => rfl⟩, ⟨_, rfl, rfl⟩, ⟨rfl, rfl, rfl, rfl, rfl, rfl, rfl, by decide +kernel, by decide +kernel, by decide +kernel⟩, fun _ _ _ _ _ => ⟨fun _ _ _ => .of_eq rfl, fun _ _ _ => .of_eq rfl⟩⟩
abbrev xi_NotProduct : XI := ⟨205, 202, 201, 190, "__init__", "NotProduct.__init__", s_NotProduct, "place"⟩
theorem xt_NotProduct : XIT xi_NotProduct "place" := ⟨⟨_, _, _, _, _, _, _, _, _, _, _, _, rfl, ⟨_, fun _ => rfl⟩, fun _ => rfl, fun _ => rfl⟩, ⟨_, rfl, rfl⟩, ⟨rfl, rfl, rfl, rfl, rfl, rfl, rfl, by decide +kernel, by decide +kernel, by decide +kernel⟩, fun _ _ _ _ _ => ⟨fun _ _ _ => .of_eq rfl, fun _ _ _ => .of_eq rfl⟩⟩
abbrev xi_NotShort : XI := ⟨226, 223, 222, 211, "__init__", "NotShort.__init__", s_NotShort, "place"⟩
theorem xt_NotShort : XIT xi_NotShort "place" := ⟨⟨_, _, _, _, _, _, _, _, _, _, _, _, rfl, ⟨_, fun _ => rfl⟩, fun _ => rfl, fun _ => rfl⟩, ⟨_, rfl, rfl⟩, ⟨rfl, rfl, rfl, rfl, rfl, rfl, rfl, by decide +kernel, by decide +kernel, by decide +kernel⟩, fun _ _ _ _ _ => ⟨fun _ _ _ => .of_eq rfl, fun _ _ _ => .of_eq rfl⟩⟩
abbrev xi_NoClass : XI := ⟨247, 244, 243, 232, "__init__", "NoClass.__init__", s_NoClass, "place"⟩
theorem xt_NoClass : XIT xi_NoClass "place" := ⟨⟨_, _, _, _, _, _, _, _, _, _, _, _, rfl, ⟨_, fun _ => rfl⟩, fun _ => rfl, fun _ => rfl⟩, ⟨_, rfl, rfl⟩, ⟨rfl, rfl, rfl, rfl, rfl, rfl, rfl, by decide +kernel, by decide +kernel, by decide +kernel⟩, fun _ _ _ _ _ => ⟨fun _ _ _ => .of_eq rfl, fun _ _ _ => .of_eq rfl⟩⟩
abbrev xi_BadForm : XI := ⟨268, 265, 264, 253, "__init__", "BadForm.__init__", s_BadForm, "part"⟩
theorem xt_BadForm : XIT xi_BadForm "part" := ⟨⟨_, _, _, _, _, _, _, _, _, _, _, _, rfl, ⟨_, fun _ => rfl⟩, fun _ => rfl, fun _ => rfl⟩, ⟨_, rfl, rfl⟩, ⟨rfl, rfl, rfl, rfl, rfl, rfl, rfl, by decide +kernel, by decide +kernel, by decide +kernel⟩, fun _ _ _ _ _ => ⟨fun _ _ _ => .of_eq rfl, fun _ _ _ => .of_eq rfl⟩⟩
abbrev xi_BadGate : XI := ⟨289, 286, 285, 274, "__init__", "BadGate.__init__", s_BadGate, "part"⟩
theorem xt_BadGate : XIT xi_BadGate "part" := ⟨⟨_, _, _, _, _, _, _, _, _, _, _, _, rfl, ⟨_, fun _ => rfl⟩, fun _ => rfl, fun _ => rfl⟩, ⟨_, rfl, rfl⟩, ⟨rfl, rfl, rfl, rfl, rfl, rfl, rfl, by decide +kernel, by decide +kernel, by decide +kernel⟩, fun _ _ _ _ _ => ⟨fun _ _ _ => .of_eq rfl, fun _ _ _ => .of_eq rfl⟩⟩
abbrev xi_BadBasis : XI := ⟨358, 355, 354, 343, "__init__", "BadBasis.__init__", s_BadBasis, "part"⟩
theorem xt_BadBasis : XIT xi_BadBasis "part" := ⟨⟨_, _, _, _, _, _, _, _, _, _, _, _, rfl, ⟨_, fun _ => rfl⟩, fun _ => rfl, fun _ => rfl⟩, ⟨_, rfl, rfl⟩, ⟨rfl, rfl, rfl, rfl, rfl, rfl, rfl, by decide +kernel, by decide +kernel, by decide +kernel⟩, fun _ _ _ _ _ => ⟨fun _ _ _ => .of_eq rfl, fun _ _ _ => .of_eq rfl⟩⟩
abbrev xi_BadLot : XI := ⟨379, 376, 375, 364, "__init__", "BadLot.__init__", s_BadLot, "part"⟩
theorem xt_BadLot : XIT xi_BadLot "part" := ⟨⟨_, _, _, _, _, _, _, _, _, _, _, _, rfl, ⟨_, fun _ => rfl⟩, fun _ => rfl, fun _ => rfl⟩, ⟨_, rfl, rfl⟩, ⟨rfl, rfl, rfl, rfl, rfl, rfl, rfl, by decide +kernel, by decide +kernel, by decide +kernel⟩, fun _ _ _ _ _ => ⟨fun _ _ _ => .of_eq rfl, fun _ _ _ => .of_eq rfl⟩⟩
abbrev xi_BadFormula : XI := ⟨412, 409, 408, 397, "__init__", "BadFormula.__init__", s_BadFormula, "part"⟩
theorem xt_BadFormula : XIT xi_BadFormula "part" := ⟨⟨_, _, _, _, _, _, _, _, _, _, _, _, rfl, ⟨_, fun _ => rfl⟩, fun _ => rfl, fun _ => rfl⟩, ⟨_, rfl, rfl⟩, ⟨rfl, rfl, rfl, rfl, rfl, rfl, rfl, by decide +kernel, by decide +kernel, by decide +kernel⟩, fun _ _ _ _ _ => ⟨fun _ _ _ => .of_eq rfl, fun _ _ _ => .of_eq rfl⟩⟩
abbrev xi_BadText : XI := ⟨433, 430, 429, 418, "__init__", "BadText.__init__", s_BadText, "at"⟩
theorem xt_BadText : XIT xi_BadText "at" := ⟨⟨_, _, _, _, _, _, _, _, _, _, _, _, rfl, ⟨_, fun _ => rfl⟩, fun _ => rfl, fun _ => rfl⟩, ⟨_, rfl, rfl⟩, ⟨rfl, rfl, rfl, rfl, rfl, rfl, rfl, by decide +kernel, by decide +kernel, by decide +kernel⟩, fun _ _ _ _ _ => ⟨fun _ _ _ => .of_eq rfl, fun _ _ _ => .of_eq rfl⟩⟩
abbrev xi_NotLet : XI := ⟨478, 475, 474, 463, "__init__", "NotLet.__init__", s_NotLet, "why"⟩
theorem xt_NotLet : XIT xi_NotLet "why" := ⟨⟨_, _, _, _, _, _, _, _, _, _, _, _, rfl, ⟨_, fun _ => rfl⟩, fun _ => rfl, fun _ => rfl⟩, ⟨_, rfl, rfl⟩, ⟨rfl, rfl, rfl, rfl, rfl, rfl, rfl, by decide +kernel, by decide +kernel, by decide +kernel⟩, fun _ _ _ _ _ => ⟨fun _ _ _ => .of_eq rfl, fun _ _ _ => .of_eq rfl⟩⟩
abbrev xi_BadDeedLine : XI := ⟨535, 532, 531, 520, "__init__", "BadDeedLine.__init__", s_BadDeedLine, "number"⟩
theorem xt_BadDeedLine : XIT xi_BadDeedLine "number" := ⟨⟨_, _, _, _, _, _, _, _, _, _, _, _, rfl, ⟨_, fun _ => rfl⟩, fun _ => rfl, fun _ => rfl⟩, ⟨_, rfl, rfl⟩, ⟨rfl, rfl, rfl, rfl, rfl, rfl, rfl, by decide +kernel, by decide +kernel, by decide +kernel⟩, fun _ _ _ _ _ => ⟨fun _ _ _ => .of_eq rfl, fun _ _ _ => .of_eq rfl⟩⟩
abbrev xi_NoForm : XI := ⟨556, 553, 552, 541, "__init__", "NoForm.__init__", s_NoForm, "place"⟩
theorem xt_NoForm : XIT xi_NoForm "place" := ⟨⟨_, _, _, _, _, _, _, _, _, _, _, _, rfl, ⟨_, fun _ => rfl⟩, fun _ => rfl, fun _ => rfl⟩, ⟨_, rfl, rfl⟩, ⟨rfl, rfl, rfl, rfl, rfl, rfl, rfl, by decide +kernel, by decide +kernel, by decide +kernel⟩, fun _ _ _ _ _ => ⟨fun _ _ _ => .of_eq rfl, fun _ _ _ => .of_eq rfl⟩⟩
abbrev xi_BadLive : XI := ⟨637, 634, 633, 622, "__init__", "BadLive.__init__", s_BadLive, "part"⟩
theorem xt_BadLive : XIT xi_BadLive "part" := ⟨⟨_, _, _, _, _, _, _, _, _, _, _, _, rfl, ⟨_, fun _ => rfl⟩, fun _ => rfl, fun _ => rfl⟩, ⟨_, rfl, rfl⟩, ⟨rfl, rfl, rfl, rfl, rfl, rfl, rfl, by decide +kernel, by decide +kernel, by decide +kernel⟩, fun _ _ _ _ _ => ⟨fun _ _ _ => .of_eq rfl, fun _ _ _ => .of_eq rfl⟩⟩
abbrev xi_BadLog : XI := ⟨658, 655, 654, 643, "__init__", "BadLog.__init__", s_BadLog, "at"⟩
theorem xt_BadLog : XIT xi_BadLog "at" := ⟨⟨_, _, _, _, _, _, _, _, _, _, _, _, rfl, ⟨_, fun _ => rfl⟩, fun _ => rfl, fun _ => rfl⟩, ⟨_, rfl, rfl⟩, ⟨rfl, rfl, rfl, rfl, rfl, rfl, rfl, by decide +kernel, by decide +kernel, by decide +kernel⟩, fun _ _ _ _ _ => ⟨fun _ _ _ => .of_eq rfl, fun _ _ _ => .of_eq rfl⟩⟩
def ads : List Addr := ([2, 3, 15, 22, 23, 24, 25, 28, 31, 36, 37, 39, 40, 42, 43, 44, 45, 46, 49, 52, 57, 58, 60, 61, 63, 64, 65, 66, 67, 70, 77, 78, 79, 82, 85, 90, 91, 93, 94, 96] : List (Addr)) ++ ([97, 98, 99, 100, 103, 106, 111, 112, 114, 115, 117, 118, 119, 120, 121, 124, 127, 132, 133, 135, 136, 138, 139, 140, 141, 142, 145, 148, 153, 154, 156, 157, 159, 160, 161, 162, 163, 166, 169, 174] : List (Addr)) ++ ([175, 177, 178, 180, 181, 182, 183, 184, 187, 190, 195, 196, 198, 199, 201, 202, 203, 204, 205, 208, 211, 216, 217, 219, 220, 222, 223, 224, 225, 226, 229, 232, 237, 238, 240, 241, 243, 244, 245, 246] : List (Addr)) ++ ([247, 250, 253, 258, 259, 261, 262, 264, 265, 266, 267, 268, 271, 274, 279, 280, 282, 283, 285, 286, 287, 288, 289, 292, 299, 300, 301, 304, 311, 312, 313, 316, 323, 324, 325, 328, 335, 336, 337, 340] : List (Addr)) ++ ([343, 348, 349, 351, 352, 354, 355, 356, 357, 358, 361, 364, 369, 370, 372, 373, 375, 376, 377, 378, 379, 382, 389, 390, 391, 394, 397, 402, 403, 405, 406, 408, 409, 410, 411, 412, 415, 418, 423, 424] : List (Addr)) ++ ([426, 427, 429, 430, 431, 432, 433, 436, 443, 444, 445, 448, 455, 456, 457, 460, 463, 468, 469, 471, 472, 474, 475, 476, 477, 478, 481, 488, 489, 490, 493, 500, 501, 502, 505, 512, 513, 514, 517, 520] : List (Addr)) ++ ([525, 526, 528, 529, 531, 532, 533, 534, 535, 538, 541, 546, 547, 549, 550, 552, 553, 554, 555, 556, 559, 566, 567, 568, 571, 578, 579, 580, 583, 590, 591, 592, 595, 602, 603, 604, 607, 614, 615, 616] : List (Addr)) ++ ([619, 622, 627, 628, 630, 631, 633, 634, 635, 636, 637, 640, 643, 648, 649, 651, 652, 654, 655, 656, 657, 658, 661, 664, 665, 666, 668, 669, 671, 672, 673, 675, 676, 678, 679, 680, 682, 683, 685, 686] : List (Addr)) ++ ([687, 689, 690, 692, 693, 694, 696, 697, 699, 700, 701, 703, 704, 706, 707, 708, 710, 711, 713, 714, 715, 718, 719] : List (Addr))
def ob1 (K : PySem.W.Frag) : List (Option (Option Value)) := ([PySem.W.nsIn K mainGlobals "abs", PySem.W.nsIn K mainGlobals "int", PySem.W.nsIn K mainGlobals "len", PySem.W.nsIn K mainGlobals "isinstance", PySem.W.nsIn K mainGlobals "enumerate", PySem.W.nsIn K mainGlobals "range", PySem.W.nsIn K mainGlobals "repr", PySem.W.nsIn K mainGlobals "ValueError", PySem.W.nsIn K mainGlobals "BadBits", PySem.W.nsIn K mainGlobals "NotFlat", PySem.W.nsIn K mainGlobals "BadChords", PySem.W.nsIn K mainGlobals "BadMove", PySem.W.nsIn K mainGlobals "NoSquare", PySem.W.nsIn K mainGlobals "BadSides", PySem.W.nsIn K mainGlobals "BadEntries", PySem.W.nsIn K mainGlobals "BadEdit", PySem.W.nsIn K mainGlobals "BadQuestion", PySem.W.nsIn K mainGlobals "BadDeed", PySem.W.nsIn K mainGlobals "BadBench", PySem.W.nsIn K mainGlobals "BadLine"] : List (Option (Option Value))) ++ ([PySem.W.nsIn K mainGlobals "BadTies", PySem.W.nsIn K mainGlobals "BadRoad", PySem.W.nsIn K mainGlobals "NoEdge", PySem.W.nsIn K mainGlobals "BadCourse", PySem.W.nsIn K mainGlobals "BadNumber", PySem.W.nsIn K mainGlobals "BadRule", PySem.W.nsIn K mainGlobals "BadWeb", PySem.W.nsIn K mainGlobals "TooMany", PySem.W.nsIn K mainGlobals "BadAffine", PySem.W.nsIn K mainGlobals "BadProduct", PySem.W.nsIn K mainGlobals "NotAffine", PySem.W.nsIn K mainGlobals "NotProduct", PySem.W.nsIn K mainGlobals "NotShort", PySem.W.nsIn K mainGlobals "NoClass", PySem.W.nsIn K mainGlobals "BadForm", PySem.W.nsIn K mainGlobals "BadGate", PySem.W.nsIn K mainGlobals "BadBasis", PySem.W.nsIn K mainGlobals "BadLot", PySem.W.nsIn K mainGlobals "BadFormula", PySem.W.nsIn K mainGlobals "BadText"] : List (Option (Option Value))) ++ ([PySem.W.nsIn K mainGlobals "NotLet", PySem.W.nsIn K mainGlobals "BadDeedLine", PySem.W.nsIn K mainGlobals "NoForm", PySem.W.nsIn K mainGlobals "BadLive", PySem.W.nsIn K mainGlobals "BadLog", PySem.W.nsIn K mainGlobals "BasisError", PySem.W.nsIn K mainGlobals "_law_begun", PySem.W.nsIn K mainGlobals "_law_mixed", PySem.W.nsIn K mainGlobals "_law_take", PySem.W.nsIn K mainGlobals "_law_pick", PySem.W.nsIn K mainGlobals "_law_any", PySem.W.nsIn K mainGlobals "_law_kinds", PySem.W.nsIn K mainGlobals "_law_plain_errors", PySem.W.nsIn K mainGlobals "_law_errors_of", PySem.W.nsIn K mainGlobals "law", PySem.W.findIn K (.ref 46) "part", PySem.W.findIn K (.ref 67) "part", PySem.W.findIn K (.ref 100) "part", PySem.W.findIn K (.ref 121) "most", PySem.W.findIn K (.ref 142) "part"] : List (Option (Option Value))) ++ ([PySem.W.findIn K (.ref 163) "part", PySem.W.findIn K (.ref 184) "place", PySem.W.findIn K (.ref 205) "place", PySem.W.findIn K (.ref 226) "place", PySem.W.findIn K (.ref 247) "place", PySem.W.findIn K (.ref 268) "part", PySem.W.findIn K (.ref 289) "part", PySem.W.findIn K (.ref 358) "part", PySem.W.findIn K (.ref 379) "part", PySem.W.findIn K (.ref 412) "part", PySem.W.findIn K (.ref 433) "at", PySem.W.findIn K (.ref 478) "why", PySem.W.findIn K (.ref 535) "number", PySem.W.findIn K (.ref 556) "place", PySem.W.findIn K (.ref 637) "part", PySem.W.findIn K (.ref 658) "at", PySem.W.nsIn K mainGlobals "super", PySem.W.nsIn K cStatics "thirdparty.any", PySem.W.specialIn K (.builtin "object.__class__") "__get__"] : List (Option (Option Value)))
def vl1 : List (Option (Option Value)) := ([some none, some none, some none, some none, some none, some none, some none, some none, some (some (.ref 79)), some (some (.ref 301)), some (some (.ref 313)), some (some (.ref 325)), some (some (.ref 337)), some (some (.ref 391)), some (some (.ref 445)), some (some (.ref 457)), some (some (.ref 490)), some (some (.ref 502)), some (some (.ref 514)), some (some (.ref 568))] : List (Option (Option Value))) ++ ([some (some (.ref 580)), some (some (.ref 592)), some (some (.ref 604)), some (some (.ref 616)), some (some (.ref 46)), some (some (.ref 67)), some (some (.ref 100)), some (some (.ref 121)), some (some (.ref 142)), some (some (.ref 163)), some (some (.ref 184)), some (some (.ref 205)), some (some (.ref 226)), some (some (.ref 247)), some (some (.ref 268)), some (some (.ref 289)), some (some (.ref 358)), some (some (.ref 379)), some (some (.ref 412)), some (some (.ref 433))] : List (Option (Option Value))) ++ ([some (some (.ref 478)), some (some (.ref 535)), some (some (.ref 556)), some (some (.ref 637)), some (some (.ref 658)), some (some (.ref 24)), some (some (.ref 665)), some (some (.ref 672)), some (some (.ref 679)), some (some (.ref 686)), some (some (.ref 693)), some (some (.ref 700)), some (some (.ref 707)), some (some (.ref 714)), some (some (.ref 719)), some none, some none, some none, some none, some none] : List (Option (Option Value))) ++ ([some none, some none, some none, some none, some none, some none, some none, some none, some none, some none, some none, some none, some none, some none, some none, some none, some none, some none, some (some (.builtin "getset_descriptor.__get__"))] : List (Option (Option Value)))
def ob2 (K : PySem.W.Frag) : List Bool := ([excKB K 24 79, excKB K 24 301, excKB K 24 313, excKB K 24 325, excKB K 24 337, excKB K 24 391, excKB K 24 445, excKB K 24 457, excKB K 24 490, excKB K 24 502, excKB K 24 514, excKB K 24 568, excKB K 24 580, excKB K 24 592, excKB K 24 604, excKB K 24 616, excKB K 24 46, excKB K 24 67, excKB K 24 100, excKB K 24 121] : List (Bool)) ++ ([excKB K 24 142, excKB K 24 163, excKB K 24 184, excKB K 24 205, excKB K 24 226, excKB K 24 247, excKB K 24 268, excKB K 24 289, excKB K 24 358, excKB K 24 379, excKB K 24 412, excKB K 24 433, excKB K 24 478, excKB K 24 535, excKB K 24 556, excKB K 24 637, excKB K 24 658, excKB K 24 24, PySem.W.excIn K 79 [.type "ValueError", .type "Exception", .type "BaseException", .type "object"] "ValueError.__new__", PySem.W.keepIn K (.ref 79)] : List (Bool)) ++ ([PySem.W.excIn K 301 [.type "ValueError", .type "Exception", .type "BaseException", .type "object"] "ValueError.__new__", PySem.W.keepIn K (.ref 301), PySem.W.excIn K 313 [.type "ValueError", .type "Exception", .type "BaseException", .type "object"] "ValueError.__new__", PySem.W.keepIn K (.ref 313), PySem.W.excIn K 325 [.type "ValueError", .type "Exception", .type "BaseException", .type "object"] "ValueError.__new__", PySem.W.keepIn K (.ref 325), PySem.W.excIn K 337 [.type "ValueError", .type "Exception", .type "BaseException", .type "object"] "ValueError.__new__", PySem.W.keepIn K (.ref 337), PySem.W.excIn K 391 [.type "ValueError", .type "Exception", .type "BaseException", .type "object"] "ValueError.__new__", PySem.W.keepIn K (.ref 391), PySem.W.excIn K 445 [.type "ValueError", .type "Exception", .type "BaseException", .type "object"] "ValueError.__new__", PySem.W.keepIn K (.ref 445), PySem.W.excIn K 457 [.type "ValueError", .type "Exception", .type "BaseException", .type "object"] "ValueError.__new__", PySem.W.keepIn K (.ref 457), PySem.W.excIn K 490 [.type "ValueError", .type "Exception", .type "BaseException", .type "object"] "ValueError.__new__", PySem.W.keepIn K (.ref 490), PySem.W.excIn K 502 [.type "ValueError", .type "Exception", .type "BaseException", .type "object"] "ValueError.__new__", PySem.W.keepIn K (.ref 502), PySem.W.excIn K 514 [.type "ValueError", .type "Exception", .type "BaseException", .type "object"] "ValueError.__new__", PySem.W.keepIn K (.ref 514)] : List (Bool)) ++ ([PySem.W.excIn K 568 [.type "ValueError", .type "Exception", .type "BaseException", .type "object"] "ValueError.__new__", PySem.W.keepIn K (.ref 568), PySem.W.excIn K 580 [.type "ValueError", .type "Exception", .type "BaseException", .type "object"] "ValueError.__new__", PySem.W.keepIn K (.ref 580), PySem.W.excIn K 592 [.type "ValueError", .type "Exception", .type "BaseException", .type "object"] "ValueError.__new__", PySem.W.keepIn K (.ref 592), PySem.W.excIn K 604 [.type "ValueError", .type "Exception", .type "BaseException", .type "object"] "ValueError.__new__", PySem.W.keepIn K (.ref 604), PySem.W.excIn K 616 [.type "ValueError", .type "Exception", .type "BaseException", .type "object"] "ValueError.__new__", PySem.W.keepIn K (.ref 616), PySem.W.excIn K 24 [.type "ValueError", .type "Exception", .type "BaseException", .type "object"] "ValueError.__new__", PySem.W.keepIn K (.ref 24), xiB R.prog K xi_BadNumber, xiB R.prog K xi_BadRule, xiB R.prog K xi_BadWeb, xiB R.prog K xi_TooMany, xiB R.prog K xi_BadAffine, xiB R.prog K xi_BadProduct, xiB R.prog K xi_NotAffine, xiB R.prog K xi_NotProduct] : List (Bool)) ++ ([xiB R.prog K xi_NotShort, xiB R.prog K xi_NoClass, xiB R.prog K xi_BadForm, xiB R.prog K xi_BadGate, xiB R.prog K xi_BadBasis, xiB R.prog K xi_BadLot, xiB R.prog K xi_BadFormula, xiB R.prog K xi_BadText, xiB R.prog K xi_NotLet, xiB R.prog K xi_BadDeedLine, xiB R.prog K xi_NoForm, xiB R.prog K xi_BadLive, xiB R.prog K xi_BadLog, decide (PySem.W.takesIn K (.builtin "object.__class__") = some true), PySem.W.codeIn K (.ref 664) "_law_begun", PySem.W.keepIn K (.ref 665), PySem.W.codeIn K (.ref 671) "_law_mixed", PySem.W.keepIn K (.ref 672), PySem.W.codeIn K (.ref 678) "_law_take", PySem.W.keepIn K (.ref 679)] : List (Bool)) ++ ([PySem.W.codeIn K (.ref 685) "_law_pick", PySem.W.keepIn K (.ref 686), PySem.W.codeIn K (.ref 692) "_law_any", PySem.W.keepIn K (.ref 693), PySem.W.codeIn K (.ref 699) "_law_kinds", PySem.W.keepIn K (.ref 700), PySem.W.codeIn K (.ref 706) "_law_plain_errors", PySem.W.keepIn K (.ref 707), PySem.W.codeIn K (.ref 713) "_law_errors_of", PySem.W.keepIn K (.ref 714), PySem.W.codeIn K (.ref 718) "law", PySem.W.keepIn K (.ref 719)] : List (Bool))
def vl2 : List Bool := List.replicate 112 true
def ob3 (K : PySem.W.Frag) : List FnX := ([xiF K xi_BadNumber, xiF K xi_BadRule, xiF K xi_BadWeb, xiF K xi_TooMany, xiF K xi_BadAffine, xiF K xi_BadProduct, xiF K xi_NotAffine, xiF K xi_NotProduct, xiF K xi_NotShort, xiF K xi_NoClass, xiF K xi_BadForm, xiF K xi_BadGate, xiF K xi_BadBasis, xiF K xi_BadLot, xiF K xi_BadFormula, xiF K xi_BadText, xiF K xi_NotLet, xiF K xi_BadDeedLine, xiF K xi_NoForm, xiF K xi_BadLive] : List (FnX)) ++ ([xiF K xi_BadLog, fnX K 665, fnX K 672, fnX K 679, fnX K 686, fnX K 693, fnX K 700, fnX K 707, fnX K 714, fnX K 719] : List (FnX))
def vl3 : List FnX := ([xi_BadNumber.val, xi_BadRule.val, xi_BadWeb.val, xi_TooMany.val, xi_BadAffine.val, xi_BadProduct.val, xi_NotAffine.val, xi_NotProduct.val, xi_NotShort.val, xi_NoClass.val, xi_BadForm.val, xi_BadGate.val, xi_BadBasis.val, xi_BadLot.val, xi_BadFormula.val, xi_BadText.val, xi_NotLet.val, xi_BadDeedLine.val, xi_NoForm.val, xi_BadLive.val] : List (FnX)) ++ ([xi_BadLog.val, defV "_law_begun" s_law_begun 664, defV "_law_mixed" s_law_mixed 671, defV "_law_take" s_law_take 678, defV "_law_pick" s_law_pick 685, defV "_law_any" s_law_any 692, defV "_law_kinds" s_law_kinds 699, defV "_law_plain_errors" s_law_plain_errors 706, defV "_law_errors_of" s_law_errors_of 713, defV "law" s_law 718] : List (FnX))
def obA (K : PySem.W.Frag) : AlL := (ob1 K, ob2 K, ob3 K)
def vlA : AlL := (vl1, vl2, vl3)
abbrev hk : PySem.W.Hook := hookL ads obA vlA
def ob (s : PySem.W.SharedT) : AlL := obA (He.frG (HandSHeadRun.getT s) ads)
theorem ob_eq (s : PySem.W.SharedT) : ob s = hk.obs s.abs := obL_eq s
def loose : List PySem.Str := (["BasisError", "BadNumber", "BadRule", "BadBits", "BadWeb", "TooMany", "BadAffine", "BadProduct", "NotAffine", "NotProduct", "NotShort", "NoClass", "BadForm", "BadGate", "NotFlat", "BadChords", "BadMove", "NoSquare", "BadBasis", "BadLot", "BadSides", "BadFormula", "BadText", "BadEntries", "BadEdit", "NotLet", "BadQuestion", "BadDeed", "BadBench", "BadDeedLine"] : List (PySem.Str)) ++ (["NoForm", "BadLine", "BadTies", "BadRoad", "NoEdge", "BadCourse", "BadLive", "BadLog", "_law_begun", "_law_mixed", "_law_take", "_law_pick", "_law_any", "_law_kinds", "_law_plain_errors", "_law_errors_of"] : List (PySem.Str))
theorem run (w : World) : HandSHeadRun.RunEq R (PySem.W.view R.prog [48]) hk ob 10000 loose w := by
  intro os
  kernel_rfl

end K00

set_option maxRecDepth 100000
set_option maxHeartbeats 8000000
namespace K00
open PySem PySem.Spec PyProof.Rows L2 LamX NdefX DLX DL
variable {w : World} {K : PySem.W.Frag} {mg : Str → Option Value}
theorem at_ {α : Type} {l m : List α} (e : l = m) (i : Nat) {a b : α} (ha : l[i]? = some a) (hb : m[i]? = some b) : a = b := by
  rw [e, hb] at ha
  exact (Option.some.inj ha).symm
theorem facts {h : Heap} {fa : Addr} (KX : K.In h) (G : h.Ns mainGlobals mg) (hfa : mg "law" = some (.ref fa)) (c : obA K = vlA) :
    ∃ (fd : FuncData) (sp : Sp), (∀ (s : Shared) (u : Value), BindsTo s fd ⟨[u], []⟩ [(("script" : Str), u)]) ∧ (∀ (H : Hp) (a : Addr) (ns : List Int), ns.length ≤ 63 → SqL K H a (ns.map V.int) → sp [.ref a] H (fun v _ => v = .bl true) fun _ _ _ => False) ∧
      ∀ base : Heap, K.In base → base.Ns mainGlobals mg → FnG R.prog w K mg base (L2.CX R.prog w) 6 fa fd ["script"] sp := by
  have c1 : ob1 K = vl1 := congrArg (fun z : AlL => z.1) c
  have c2 : ob2 K = vl2 := congrArg (fun z : AlL => z.2.1) c
  have c3 : ob3 K = vl3 := congrArg (fun z : AlL => z.2.2) c
  have sup : PySem.W.nsIn K mainGlobals "super" = some none := (at_ c1 76 rfl rfl)
  have opq : PySem.W.nsIn K cStatics "thirdparty.any" = some none := (at_ c1 77 rfl rfl)
  have ot : PySem.W.takesIn K (.builtin "object.__class__") = some true := of_decide_eq_true (at_ c2 93 rfl rfl)
  have d_law_begun : DefK K "_law_begun" s_law_begun 665 ["script"] := by
    obtain ⟨fd, F⟩ := def_ok (K := K) (x := "_law_begun") (st := s_law_begun) (f := 665) (cd := 664) (at_ c3 21 rfl rfl) (at_ c2 94 rfl rfl) (at_ c2 95 rfl rfl)
    exact ⟨fd, F, (at_ c2 95 rfl rfl), F.binds fun _ _ _ _ _ _ us hl => match us, hl with | [_], _ => rfl⟩
  have d_law_mixed : DefK K "_law_mixed" s_law_mixed 672 ["draw"] := by
    obtain ⟨fd, F⟩ := def_ok (K := K) (x := "_law_mixed") (st := s_law_mixed) (f := 672) (cd := 671) (at_ c3 22 rfl rfl) (at_ c2 96 rfl rfl) (at_ c2 97 rfl rfl)
    exact ⟨fd, F, (at_ c2 97 rfl rfl), F.binds fun _ _ _ _ _ _ us hl => match us, hl with | [_], _ => rfl⟩
  have d_law_take : DefK K "_law_take" s_law_take 679 ["draw", "amount"] := by
    obtain ⟨fd, F⟩ := def_ok (K := K) (x := "_law_take") (st := s_law_take) (f := 679) (cd := 678) (at_ c3 23 rfl rfl) (at_ c2 98 rfl rfl) (at_ c2 99 rfl rfl)
    exact ⟨fd, F, (at_ c2 99 rfl rfl), F.binds fun _ _ _ _ _ _ us hl => match us, hl with | [_, _], _ => rfl⟩
  have d_law_pick : DefK K "_law_pick" s_law_pick 686 ["draw", "some"] := by
    obtain ⟨fd, F⟩ := def_ok (K := K) (x := "_law_pick") (st := s_law_pick) (f := 686) (cd := 685) (at_ c3 24 rfl rfl) (at_ c2 100 rfl rfl) (at_ c2 101 rfl rfl)
    exact ⟨fd, F, (at_ c2 101 rfl rfl), F.binds fun _ _ _ _ _ _ us hl => match us, hl with | [_, _], _ => rfl⟩
  have d_law_any : DefK K "_law_any" s_law_any 693 ["draw"] := by
    obtain ⟨fd, F⟩ := def_ok (K := K) (x := "_law_any") (st := s_law_any) (f := 693) (cd := 692) (at_ c3 25 rfl rfl) (at_ c2 102 rfl rfl) (at_ c2 103 rfl rfl)
    exact ⟨fd, F, (at_ c2 103 rfl rfl), F.binds fun _ _ _ _ _ _ us hl => match us, hl with | [_], _ => rfl⟩
  have d_law_kinds : DefK K "_law_kinds" s_law_kinds 700 ["error"] := by
    obtain ⟨fd, F⟩ := def_ok (K := K) (x := "_law_kinds") (st := s_law_kinds) (f := 700) (cd := 699) (at_ c3 26 rfl rfl) (at_ c2 104 rfl rfl) (at_ c2 105 rfl rfl)
    exact ⟨fd, F, (at_ c2 105 rfl rfl), F.binds fun _ _ _ _ _ _ us hl => match us, hl with | [_], _ => rfl⟩
  have d_law_plain_errors : DefK K "_law_plain_errors" s_law_plain_errors 707 ["words_here"] := by
    obtain ⟨fd, F⟩ := def_ok (K := K) (x := "_law_plain_errors") (st := s_law_plain_errors) (f := 707) (cd := 706) (at_ c3 27 rfl rfl) (at_ c2 106 rfl rfl) (at_ c2 107 rfl rfl)
    exact ⟨fd, F, (at_ c2 107 rfl rfl), F.binds fun _ _ _ _ _ _ us hl => match us, hl with | [_], _ => rfl⟩
  have d_law_errors_of : DefK K "_law_errors_of" s_law_errors_of 714 ["each"] := by
    obtain ⟨fd, F⟩ := def_ok (K := K) (x := "_law_errors_of") (st := s_law_errors_of) (f := 714) (cd := 713) (at_ c3 28 rfl rfl) (at_ c2 108 rfl rfl) (at_ c2 109 rfl rfl)
    exact ⟨fd, F, (at_ c2 109 rfl rfl), F.binds fun _ _ _ _ _ _ us hl => match us, hl with | [_], _ => rfl⟩
  have d_law : DefK K "law" s_law 719 ["script"] := by
    obtain ⟨fd, F⟩ := def_ok (K := K) (x := "law") (st := s_law) (f := 719) (cd := 718) (at_ c3 29 rfl rfl) (at_ c2 110 rfl rfl) (at_ c2 111 rfl rfl)
    exact ⟨fd, F, (at_ c2 111 rfl rfl), F.binds fun _ _ _ _ _ _ us hl => match us, hl with | [_], _ => rfl⟩
  exact top_mk KX G hfa (by decide)
    (at_ c1 0 rfl rfl)
    (at_ c1 1 rfl rfl)
    (at_ c1 2 rfl rfl)
    (at_ c1 3 rfl rfl)
    (at_ c1 4 rfl rfl)
    (at_ c1 5 rfl rfl)
    (at_ c1 6 rfl rfl)
    (at_ c1 7 rfl rfl)
    (at_ c1 8 rfl rfl)
    (at_ c1 9 rfl rfl)
    (at_ c1 10 rfl rfl)
    (at_ c1 11 rfl rfl)
    (at_ c1 12 rfl rfl)
    (at_ c1 13 rfl rfl)
    (at_ c1 14 rfl rfl)
    (at_ c1 15 rfl rfl)
    (at_ c1 16 rfl rfl)
    (at_ c1 17 rfl rfl)
    (at_ c1 18 rfl rfl)
    (at_ c1 19 rfl rfl)
    (at_ c1 20 rfl rfl)
    (at_ c1 21 rfl rfl)
    (at_ c1 22 rfl rfl)
    (at_ c1 23 rfl rfl)
    (at_ c1 24 rfl rfl)
    (at_ c1 25 rfl rfl)
    (at_ c1 26 rfl rfl)
    (at_ c1 27 rfl rfl)
    (at_ c1 28 rfl rfl)
    (at_ c1 29 rfl rfl)
    (at_ c1 30 rfl rfl)
    (at_ c1 31 rfl rfl)
    (at_ c1 32 rfl rfl)
    (at_ c1 33 rfl rfl)
    (at_ c1 34 rfl rfl)
    (at_ c1 35 rfl rfl)
    (at_ c1 36 rfl rfl)
    (at_ c1 37 rfl rfl)
    (at_ c1 38 rfl rfl)
    (at_ c1 39 rfl rfl)
    (at_ c1 40 rfl rfl)
    (at_ c1 41 rfl rfl)
    (at_ c1 42 rfl rfl)
    (at_ c1 43 rfl rfl)
    (at_ c1 44 rfl rfl)
    (at_ c1 45 rfl rfl)
    (at_ c2 0 rfl rfl)
    (at_ c2 1 rfl rfl)
    (at_ c2 2 rfl rfl)
    (at_ c2 3 rfl rfl)
    (at_ c2 4 rfl rfl)
    (at_ c2 5 rfl rfl)
    (at_ c2 6 rfl rfl)
    (at_ c2 7 rfl rfl)
    (at_ c2 8 rfl rfl)
    (at_ c2 9 rfl rfl)
    (at_ c2 10 rfl rfl)
    (at_ c2 11 rfl rfl)
    (at_ c2 12 rfl rfl)
    (at_ c2 13 rfl rfl)
    (at_ c2 14 rfl rfl)
    (at_ c2 15 rfl rfl)
    (at_ c2 16 rfl rfl)
    (at_ c2 17 rfl rfl)
    (at_ c2 18 rfl rfl)
    (at_ c2 19 rfl rfl)
    (at_ c2 20 rfl rfl)
    (at_ c2 21 rfl rfl)
    (at_ c2 22 rfl rfl)
    (at_ c2 23 rfl rfl)
    (at_ c2 24 rfl rfl)
    (at_ c2 25 rfl rfl)
    (at_ c2 26 rfl rfl)
    (at_ c2 27 rfl rfl)
    (at_ c2 28 rfl rfl)
    (at_ c2 29 rfl rfl)
    (at_ c2 30 rfl rfl)
    (at_ c2 31 rfl rfl)
    (at_ c2 32 rfl rfl)
    (at_ c2 33 rfl rfl)
    (at_ c2 34 rfl rfl)
    (at_ c2 35 rfl rfl)
    (at_ c2 36 rfl rfl)
    (at_ c2 37 rfl rfl)
    (at_ c2 38 rfl rfl)
    (at_ c2 39 rfl rfl)
    (at_ c2 40 rfl rfl)
    (at_ c2 41 rfl rfl)
    (at_ c2 42 rfl rfl)
    (at_ c2 43 rfl rfl)
    (at_ c2 44 rfl rfl)
    (at_ c2 45 rfl rfl)
    (at_ c2 46 rfl rfl)
    (at_ c2 47 rfl rfl)
    (at_ c2 48 rfl rfl)
    (at_ c2 49 rfl rfl)
    (at_ c2 50 rfl rfl)
    (at_ c2 51 rfl rfl)
    (at_ c2 52 rfl rfl)
    (at_ c2 53 rfl rfl)
    (at_ c2 54 rfl rfl)
    (at_ c2 55 rfl rfl)
    (at_ c2 56 rfl rfl)
    (at_ c2 57 rfl rfl)
    (at_ c2 58 rfl rfl)
    (at_ c2 59 rfl rfl)
    (at_ c2 60 rfl rfl)
    (at_ c2 61 rfl rfl)
    (at_ c2 62 rfl rfl)
    (at_ c2 63 rfl rfl)
    (at_ c2 64 rfl rfl)
    (at_ c2 65 rfl rfl)
    (at_ c2 66 rfl rfl)
    (at_ c2 67 rfl rfl)
    (at_ c2 68 rfl rfl)
    (at_ c2 69 rfl rfl)
    (at_ c2 70 rfl rfl)
    (at_ c2 71 rfl rfl)
    (at_ c1 55 rfl rfl)
    (fun base => xi_ok (Pr := R.prog) (i := xi_BadNumber) (at_ c2 72 rfl rfl) (at_ c3 0 rfl rfl) xt_BadNumber (by decide +kernel) sup opq)
    (at_ c1 56 rfl rfl)
    (fun base => xi_ok (Pr := R.prog) (i := xi_BadRule) (at_ c2 73 rfl rfl) (at_ c3 1 rfl rfl) xt_BadRule (by decide +kernel) sup opq)
    (at_ c1 57 rfl rfl)
    (fun base => xi_ok (Pr := R.prog) (i := xi_BadWeb) (at_ c2 74 rfl rfl) (at_ c3 2 rfl rfl) xt_BadWeb (by decide +kernel) sup opq)
    (at_ c1 58 rfl rfl)
    (fun base => xi_ok (Pr := R.prog) (i := xi_TooMany) (at_ c2 75 rfl rfl) (at_ c3 3 rfl rfl) xt_TooMany (by decide +kernel) sup opq)
    (at_ c1 59 rfl rfl)
    (fun base => xi_ok (Pr := R.prog) (i := xi_BadAffine) (at_ c2 76 rfl rfl) (at_ c3 4 rfl rfl) xt_BadAffine (by decide +kernel) sup opq)
    (at_ c1 60 rfl rfl)
    (fun base => xi_ok (Pr := R.prog) (i := xi_BadProduct) (at_ c2 77 rfl rfl) (at_ c3 5 rfl rfl) xt_BadProduct (by decide +kernel) sup opq)
    (at_ c1 61 rfl rfl)
    (fun base => xi_ok (Pr := R.prog) (i := xi_NotAffine) (at_ c2 78 rfl rfl) (at_ c3 6 rfl rfl) xt_NotAffine (by decide +kernel) sup opq)
    (at_ c1 62 rfl rfl)
    (fun base => xi_ok (Pr := R.prog) (i := xi_NotProduct) (at_ c2 79 rfl rfl) (at_ c3 7 rfl rfl) xt_NotProduct (by decide +kernel) sup opq)
    (at_ c1 63 rfl rfl)
    (fun base => xi_ok (Pr := R.prog) (i := xi_NotShort) (at_ c2 80 rfl rfl) (at_ c3 8 rfl rfl) xt_NotShort (by decide +kernel) sup opq)
    (at_ c1 64 rfl rfl)
    (fun base => xi_ok (Pr := R.prog) (i := xi_NoClass) (at_ c2 81 rfl rfl) (at_ c3 9 rfl rfl) xt_NoClass (by decide +kernel) sup opq)
    (at_ c1 65 rfl rfl)
    (fun base => xi_ok (Pr := R.prog) (i := xi_BadForm) (at_ c2 82 rfl rfl) (at_ c3 10 rfl rfl) xt_BadForm (by decide +kernel) sup opq)
    (at_ c1 66 rfl rfl)
    (fun base => xi_ok (Pr := R.prog) (i := xi_BadGate) (at_ c2 83 rfl rfl) (at_ c3 11 rfl rfl) xt_BadGate (by decide +kernel) sup opq)
    (at_ c1 67 rfl rfl)
    (fun base => xi_ok (Pr := R.prog) (i := xi_BadBasis) (at_ c2 84 rfl rfl) (at_ c3 12 rfl rfl) xt_BadBasis (by decide +kernel) sup opq)
    (at_ c1 68 rfl rfl)
    (fun base => xi_ok (Pr := R.prog) (i := xi_BadLot) (at_ c2 85 rfl rfl) (at_ c3 13 rfl rfl) xt_BadLot (by decide +kernel) sup opq)
    (at_ c1 69 rfl rfl)
    (fun base => xi_ok (Pr := R.prog) (i := xi_BadFormula) (at_ c2 86 rfl rfl) (at_ c3 14 rfl rfl) xt_BadFormula (by decide +kernel) sup opq)
    (at_ c1 70 rfl rfl)
    (fun base => xi_ok (Pr := R.prog) (i := xi_BadText) (at_ c2 87 rfl rfl) (at_ c3 15 rfl rfl) xt_BadText (by decide +kernel) sup opq)
    (at_ c1 71 rfl rfl)
    (fun base => xi_ok (Pr := R.prog) (i := xi_NotLet) (at_ c2 88 rfl rfl) (at_ c3 16 rfl rfl) xt_NotLet (by decide +kernel) sup opq)
    (at_ c1 72 rfl rfl)
    (fun base => xi_ok (Pr := R.prog) (i := xi_BadDeedLine) (at_ c2 89 rfl rfl) (at_ c3 17 rfl rfl) xt_BadDeedLine (by decide +kernel) sup opq)
    (at_ c1 73 rfl rfl)
    (fun base => xi_ok (Pr := R.prog) (i := xi_NoForm) (at_ c2 90 rfl rfl) (at_ c3 18 rfl rfl) xt_NoForm (by decide +kernel) sup opq)
    (at_ c1 74 rfl rfl)
    (fun base => xi_ok (Pr := R.prog) (i := xi_BadLive) (at_ c2 91 rfl rfl) (at_ c3 19 rfl rfl) xt_BadLive (by decide +kernel) sup opq)
    (at_ c1 75 rfl rfl)
    (fun base => xi_ok (Pr := R.prog) (i := xi_BadLog) (at_ c2 92 rfl rfl) (at_ c3 20 rfl rfl) xt_BadLog (by decide +kernel) sup opq)
    (at_ c1 78 rfl rfl)
    ot
    (at_ c1 46 rfl rfl)
    d_law_begun
    (at_ c1 47 rfl rfl)
    d_law_mixed
    (at_ c1 48 rfl rfl)
    d_law_take
    (at_ c1 49 rfl rfl)
    d_law_pick
    (at_ c1 50 rfl rfl)
    d_law_any
    (at_ c1 51 rfl rfl)
    d_law_kinds
    (at_ c1 52 rfl rfl)
    d_law_plain_errors
    (at_ c1 53 rfl rfl)
    d_law_errors_of
    (at_ c1 54 rfl rfl)
    d_law

end K00

open PySem PySem.W PyProof.Rows
set_option maxRecDepth 100000 in
set_option maxHeartbeats 0 in
theorem PySem.Challenge.cw_onebasis_k00_errors_of_all_parts_holds : PySem.Challenge.rw_onebasis_k00_errors_of_all_parts.Holds := by
  w_on; o_law
  refine HandSHeadRun.head_any (r := OpenLaw.row PySem.Challenge.rw_onebasis_k00_errors_of_all_parts) (q := view (OpenLaw.row PySem.Challenge.rw_onebasis_k00_errors_of_all_parts).prog [48]) (H := K00.hk) (ob := K00.ob) (M := 10000) (loose := K00.loose) (d := HandSHeadRun.topDef (OpenLaw.row PySem.Challenge.rw_onebasis_k00_errors_of_all_parts).prog 48) (kwd := []) K00.ob_eq
    (by kernel_rfl) (fun s => by kernel_rfl) K00.run (by kernel_rfl) (by kernel_rfl) (by kernel_rfl) (by rfl) (by first | assumption | decide +kernel) (by decide +kernel) ⟨rfl, rfl, rfl, rfl, rfl, by decide +kernel⟩ ?hw ?hc
  case hw => w_witness2
  case hc =>
    refine DL.walkH (l := PySem.Challenge.rw_onebasis_k00_errors_of_all_parts) (n := 63) (k := 6) rfl (by decide) (by kernel_rfl) ⟨rfl, by decide, by decide⟩ ?F
    intro w mg fa h Y G hmg0
    obtain ⟨K, KX, c⟩ := Y
    have hmg : mg ("law" : PySem.Str) = some (.ref fa) := by
      have e : (HandSHeadRun.topDef (OpenLaw.row PySem.Challenge.rw_onebasis_k00_errors_of_all_parts).prog 48).name = ("law" : PySem.Str) := by kernel_rfl
      rw [← e]
      exact hmg0
    obtain ⟨fd, sp, h1, h2, h3⟩ := K00.facts (w := w) KX G hmg c
    exact ⟨K, fd, sp, KX, h1, h2, h3⟩
