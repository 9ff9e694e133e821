import PyProof.Rows.All
import Wide.All
import OpenK.AllK
import Wide.FinOn
import HandS.ForMost
import HandS.Exc
import HandS.TryOnly
import HandS.ExcOwn
import HandS.CallSlots
import HandS.IsInst
import HandS.Deep
import KE.DataEq
import HandS.TupAny
import HandS.More
import HandS.NoneIn
import HandS.Wide
import HandS.Style
import HandS.Iter
import HandS.Conv
import HandS.WordsExc
import HandS.List
import HandS.Text
import HandS.Dict
import HandS.WordsDict
import HandS.TupLen
import KE.SortData
import PyProof.ListStr
import PyProof.ReprRoads
import HandS.Comp
import KE.GoesEnum
import KE.GoesZip
import HandS.Zip
import HandS.ClsMeth
import HandS.Property
import HandS.ExcInit
import HandS.Ends
import HandS.ExcField
import HandS.OwnEq
import HandS.ExcIs
import PyProof.SliceStr2
import HandS.DictComp
import HandS.SetKeys
import HandS.Small
import KE.KOpsOwn
import PyProof.StrLawsRepr
import PyProof.Rows.RegStrFacts
import HandS.Defaults
import PySem.Challenge.RW_heardorder_k39_bells_that_meet
set_option Elab.async false
set_option linter.all false
set_option maxRecDepth 100000
set_option maxHeartbeats 4000000
/-! DL1: values as data (trees), slots, the state and what one step leaves of it. -/
namespace DL
open PySem L2
abbrev St := L2.St

/-- data: a value as a tree, without the heap. ins: an instance of own class number c; exc: an own exception -/
inductive D where
  | non | bl (b : Bool) | int (i : Int) | str (x : Str) | ty (n : String) | cls (c : Nat)
  | lst (xs : List D) | tup (xs : List D)
  | dic (ks vs : List D)
  | ins (c : Nat) (fs : List Str) (vs : List D)
  | exc (c : Nat) (fs : List Str) (vs : List D)

instance : Inhabited D := ⟨.non⟩

/-- a slot of a frame: no value; data that nobody changes any more; an object that this frame alone may change -/
inductive Sl where
  | un | dat (d : D) | own (d : D)

/-- what an expression gives: data; a new object that nobody else holds; the object that is owned by a slot -/
inductive Rf where
  | dat (d : D) | own (d : D) | slot (i : Nat)

abbrev RR (α : Type) := Option (Except D α × List Sl)
def M (α : Type) := List Sl → RR α
def ret {α : Type} (a : α) : M α := fun Γ => some (.ok a, Γ)
def bnd {α β : Type} (m : M α) (k : α → M β) : M β := fun Γ => match m Γ with
  | none => none
  | some (.error e, Γ') => some (.error e, Γ')
  | some (.ok a, Γ') => k a Γ'
def fail {α : Type} : M α := fun _ => none
def throw' {α : Type} (e : D) : M α := fun Γ => some (.error e, Γ)

theorem bnd_ok {α β : Type} {m : M α} {k : α → M β} {Γ Γ' : List Sl} {a : α} (h : m Γ = some (.ok a, Γ')) : bnd m k Γ = k a Γ' := by
  unfold bnd; rw [h]
theorem bnd_err {α β : Type} {m : M α} {k : α → M β} {Γ Γ' : List Sl} {e : D} (h : m Γ = some (.error e, Γ')) : bnd m k Γ = some (.error e, Γ') := by
  unfold bnd; rw [h]
theorem bnd_none {α β : Type} {m : M α} {k : α → M β} {Γ : List Sl} (h : m Γ = none) : bnd m k Γ = none := by
  unfold bnd; rw [h]
@[simp] theorem bnd_ret {α β : Type} (a : α) (k : α → M β) : bnd (ret a) k = k a := rfl
theorem bnd_assoc {α β γ : Type} (m : M α) (k : α → M β) (l : β → M γ) : bnd (bnd m k) l = bnd m fun a => bnd (k a) l := by
  funext Γ
  unfold bnd
  rcases m Γ with _ | ⟨_ | _, _⟩ <;> rfl

/-! ### data in a heap -/
def keyD : Key → D
  | .inl i => .int i
  | .inr x => .str x
/-- an own exception's object: class, own dict -/
def ExcO (a : Addr) (C : Addr) (dx : Option Addr) : HO := .ext fun h => ∃ (o : Obj) (vs : Array Value), h.get? a = some o ∧ o.cls = .ref C ∧ o.dict = dx ∧ o.data = .fields vs

/-- a dict that a loop may lock: not empty, no tuples as keys -/
def lockO : HO → Bool
  | .dK kvs => !kvs.isEmpty
  | _ => false
/-- what stands at a; a dict may be locked there -/
def RdD (F : Hp) (a : Addr) (ho : HO) : Prop := F a = some ho ∨ (lockO ho = true ∧ ∃ o, F a = some (.frz o ho))
theorem RdD.rd {F : Hp} {a : Addr} {ho : HO} (h : RdD F a ho) : Rd F a ho := by
  rcases h with h | ⟨_, o, h⟩
  · exact .inl h
  · exact .inr ⟨o, h⟩
theorem RdD.mono {F F' : Hp} {a : Addr} {ho : HO} (h : RdD F a ho) (e : Same F F') : RdD F' a ho := by
  rcases h with h | ⟨m, o, h⟩
  · exact .inl (e _ _ h)
  · exact .inr ⟨m, o, e _ _ h⟩
theorem RdD.flat {F : Hp} {a : Addr} {ho : HO} (h : RdD F a ho) (n : lockO ho = false) : F a = some ho := by
  rcases h with h | ⟨m, _⟩
  · exact h
  · rw [n] at m; cases m

mutual
inductive Is (K : PySem.W.Frag) (cm : Nat → Addr) (F : Hp) : V → D → Prop
  | non : Is K cm F .non .non
  | bl (b : Bool) : Is K cm F (.bl b) (.bl b)
  | int (i : Int) : Is K cm F (.int i) (.int i)
  | str (x : Str) : Is K cm F (.str x) (.str x)
  | ty (n : String) : Is K cm F (.ty n) (.ty n)
  | cls (c : Nat) : Is K cm F (.ref (cm c)) (.cls c)
  | klst {a : Addr} {vs : List V} {ds : List D} (h : SqL K F a vs) (hs : IsAll K cm F vs ds) : Is K cm F (.ref a) (.lst ds)
  | ktup {a : Addr} {vs : List V} {ds : List D} (h : F a = some (.tup vs)) (hs : IsAll K cm F vs ds) : Is K cm F (.ref a) (.tup ds)
  | obj {a : Addr} {ho : HO} {d : D} (h : RdD F a ho) (ho : OwnIs K cm F ho d) : Is K cm F (.ref a) d
  | exc {a dx : Addr} {c : Nat} {ws : List (Str × V)} {fs : List Str} {vs : List D} (h : F a = some (ExcO a (cm c) (some dx))) (hd : F dx = some (.xd ws)) (hf : ws.map (·.1) = fs) (hs : IsAll K cm F (ws.map (·.2)) vs) : Is K cm F (.ref a) (.exc c fs vs)
  | exc0 {a : Addr} {c : Nat} (h : F a = some (ExcO a (cm c) none)) : Is K cm F (.ref a) (.exc c [] [])
inductive OwnIs (K : PySem.W.Frag) (cm : Nat → Addr) (F : Hp) : HO → D → Prop
  | lst {vs : List V} {ds : List D} (hs : IsAll K cm F vs ds) : OwnIs K cm F (.lst vs) (.lst ds)
  | dK {kvs : List (Key × V)} {ks vs : List D} (hk : kvs.map (fun p => keyD p.1) = ks) (hs : IsAll K cm F (kvs.map (·.2)) vs) : OwnIs K cm F (.dK kvs) (.dic ks vs)
  | dT {kvs : List (List Key × V)} {ks vs : List D} (hk : kvs.map (fun p => D.tup (p.1.map keyD)) = ks) (hs : IsAll K cm F (kvs.map (·.2)) vs) : OwnIs K cm F (.dT kvs) (.dic ks vs)
  | ins {c : Nat} {dx : Addr} {ws : List (Str × V)} {fs : List Str} {vs : List D} (hf : ws.map (·.1) = fs) (hs : IsAll K cm F (ws.map (·.2)) vs) : OwnIs K cm F (.ins (cm c) dx ws) (.ins c fs vs)
inductive IsAll (K : PySem.W.Frag) (cm : Nat → Addr) (F : Hp) : List V → List D → Prop
  | nil : IsAll K cm F [] []
  | cons {v : V} {vs : List V} {d : D} {ds : List D} (h : Is K cm F v d) (hs : IsAll K cm F vs ds) : IsAll K cm F (v :: vs) (d :: ds)
end

section
variable {K : PySem.W.Frag} {cm : Nat → Addr} {F F' H H' : Hp}

theorem rd_same {a : Addr} {o : HO} (e : Same F F') (h : Rd F a o) : Rd F' a o := by
  rcases h with h | ⟨u, h⟩
  · exact .inl (e _ _ h)
  · exact .inr ⟨u, e _ _ h⟩
theorem sql_same {a : Addr} {xs : List V} (e : Same F F') (h : SqL K F a xs) : SqL K F' a xs := by
  rcases h with h | h
  · exact .inl (rd_same e h)
  · exact .inr h
theorem sqt_same {a : Addr} {xs : List V} (e : Same F F') (h : SqT K F a xs) : SqT K F' a xs := by
  rcases h with (h | ⟨o, h⟩) | h
  · exact .inl (.inl (e _ _ h))
  · exact .inl (.inr ⟨o, e _ _ h⟩)
  · exact .inr h

mutual
theorem Is.mono (e : Same F F') : ∀ (d : D) {v : V}, Is K cm F v d → Is K cm F' v d
  | .non, _, h => by
    cases h with
    | non => exact .non
    | obj h ho => cases ho
  | .bl b, _, h => by
    cases h with
    | bl => exact .bl b
    | obj h ho => cases ho
  | .int i, _, h => by
    cases h with
    | int => exact .int i
    | obj h ho => cases ho
  | .str x, _, h => by
    cases h with
    | str => exact .str x
    | obj h ho => cases ho
  | .ty n, _, h => by
    cases h with
    | ty => exact .ty n
    | obj h ho => cases ho
  | .cls c, _, h => by
    cases h with
    | cls => exact .cls c
    | obj h ho => cases ho
  | .lst ds, _, h => by
    cases h with
    | klst h hs => exact .klst (sql_same e h) (IsAll.mono e ds hs)
    | obj h ho =>
      cases ho with
      | lst hs => exact .obj (h.mono e) (.lst (IsAll.mono e ds hs))
  | .tup ds, _, h => by
    cases h with
    | ktup h hs => exact .ktup (e _ _ h) (IsAll.mono e ds hs)
    | obj h ho => cases ho
  | .dic ks vs, _, h => by
    cases h with
    | obj h ho =>
      cases ho with
      | dK hk hs => exact .obj (h.mono e) (.dK hk (IsAll.mono e vs hs))
      | dT hk hs => exact .obj (h.mono e) (.dT hk (IsAll.mono e vs hs))
  | .ins c fs vs, _, h => by
    cases h with
    | obj h ho =>
      cases ho with
      | ins hf hs => exact .obj (h.mono e) (.ins hf (IsAll.mono e vs hs))
  | .exc c fs vs, _, h => by
    cases h with
    | exc h hd hf hs => exact .exc (e _ _ h) (e _ _ hd) hf (IsAll.mono e vs hs)
    | exc0 h => exact .exc0 (e _ _ h)
    | obj h ho => cases ho
theorem IsAll.mono (e : Same F F') : ∀ (ds : List D) {vs : List V}, IsAll K cm F vs ds → IsAll K cm F' vs ds
  | [], _, h => by
    cases h
    exact .nil
  | d :: ds, _, h => by
    cases h with
    | cons h hs => exact .cons (Is.mono e d h) (IsAll.mono e ds hs)
end
theorem OwnIs.mono (e : Same F F') {ho : HO} {d : D} (h : OwnIs K cm F ho d) : OwnIs K cm F' ho d := by
  cases h with
  | lst hs => exact .lst (hs.mono e _)
  | dK hk hs => exact .dK hk (hs.mono e _)
  | dT hk hs => exact .dT hk (hs.mono e _)
  | ins hf hs => exact .ins hf (hs.mono e _)

theorem IsAll.length : ∀ {vs : List V} {ds : List D}, IsAll K cm F vs ds → vs.length = ds.length
  | _, [], h => by cases h; rfl
  | _, d :: ds, h => by
    cases h with
    | cons h hs => simp [IsAll.length hs]
theorem IsAll.get : ∀ {vs : List V} {ds : List D} {i : Nat} {d : D}, IsAll K cm F vs ds → ds[i]? = some d → ∃ v, vs[i]? = some v ∧ Is K cm F v d
  | _, [], i, d, h, e => by simp at e
  | _, _ :: ds, 0, d, h, e => by
    cases h with
    | cons h hs => simp at e; subst e; exact ⟨_, rfl, h⟩
  | _, _ :: ds, i + 1, d, h, e => by
    cases h with
    | cons h hs =>
      obtain ⟨v, h1, h2⟩ := IsAll.get (i := i) hs (by simpa using e)
      exact ⟨v, by simpa using h1, h2⟩
theorem IsAll.getV : ∀ {vs : List V} {ds : List D} {i : Nat} {v : V}, IsAll K cm F vs ds → vs[i]? = some v → ∃ d, ds[i]? = some d ∧ Is K cm F v d
  | _, [], i, v, h, e => by cases h; simp at e
  | _, _ :: ds, 0, v, h, e => by
    cases h with
    | cons h hs => simp at e; subst e; exact ⟨_, rfl, h⟩
  | _, _ :: ds, i + 1, v, h, e => by
    cases h with
    | cons h hs =>
      obtain ⟨d, h1, h2⟩ := IsAll.getV (i := i) hs (by simpa using e)
      exact ⟨d, by simpa using h1, h2⟩
theorem IsAll.append : ∀ {vs ws : List V} {ds es : List D}, IsAll K cm F vs ds → IsAll K cm F ws es → IsAll K cm F (vs ++ ws) (ds ++ es)
  | _, _, [], _, h, g => by cases h; exact g
  | _, _, d :: ds, _, h, g => by
    cases h with
    | cons h hs => exact .cons h (IsAll.append hs g)
theorem IsAll.split : ∀ {vs : List V} {ds es : List D}, IsAll K cm F vs (ds ++ es) → ∃ v1 v2, vs = v1 ++ v2 ∧ IsAll K cm F v1 ds ∧ IsAll K cm F v2 es
  | vs, [], es, h => ⟨[], vs, rfl, .nil, h⟩
  | _, d :: ds, es, h => by
    cases h with
    | cons h hs =>
      obtain ⟨v1, v2, rfl, h1, h2⟩ := IsAll.split hs
      exact ⟨_ :: v1, v2, rfl, .cons h h1, h2⟩
theorem IsAll.take : ∀ {vs : List V} {ds : List D} (n : Nat), IsAll K cm F vs ds → IsAll K cm F (vs.take n) (ds.take n)
  | _, [], n, h => by cases h; simpa using IsAll.nil
  | _, d :: ds, 0, h => by simpa using IsAll.nil
  | _, d :: ds, n + 1, h => by
    cases h with
    | cons h hs => exact .cons h (IsAll.take n hs)
theorem IsAll.drop : ∀ {vs : List V} {ds : List D} (n : Nat), IsAll K cm F vs ds → IsAll K cm F (vs.drop n) (ds.drop n)
  | _, [], n, h => by cases h; simpa using IsAll.nil
  | _, d :: ds, 0, h => h
  | _, d :: ds, n + 1, h => by
    cases h with
    | cons h hs => exact IsAll.drop n hs
theorem IsAll.set : ∀ {vs : List V} {ds : List D} {v : V} {d : D} (i : Nat), IsAll K cm F vs ds → Is K cm F v d → IsAll K cm F (vs.set i v) (ds.set i d)
  | _, [], v, d, i, h, g => by cases h; exact .nil
  | _, _ :: ds, v, d, 0, h, g => by
    cases h with
    | cons h hs => exact .cons g hs
  | _, _ :: ds, v, d, i + 1, h, g => by
    cases h with
    | cons h hs => exact .cons h (IsAll.set i hs g)
theorem IsAll.reverse : ∀ {vs : List V} {ds : List D}, IsAll K cm F vs ds → IsAll K cm F vs.reverse ds.reverse
  | _, [], h => by cases h; exact .nil
  | _, d :: ds, h => by
    cases h with
    | cons h hs =>
      rw [List.reverse_cons, List.reverse_cons]
      exact (IsAll.reverse hs).append (.cons h .nil)

/-- an operand: data, or an object whose items are data -/
def IsT (K : PySem.W.Frag) (cm : Nat → Addr) (F H : Hp) (v : V) (d : D) : Prop := Is K cm F v d ∨ ∃ a ho, v = .ref a ∧ H a = some ho ∧ OwnIs K cm F ho d
theorem Is.t {v : V} {d : D} (h : Is K cm F v d) : IsT K cm F H v d := .inl h

/-! ### inversions -/
theorem IsT.non {v : V} (h : IsT K cm F H v .non) : v = .non := by
  rcases h with h | ⟨a, ho, rfl, e, h⟩
  · cases h with
    | non => rfl
    | obj h ho => cases ho
  · cases h
theorem IsT.bl {v : V} {b : Bool} (h : IsT K cm F H v (.bl b)) : v = .bl b := by
  rcases h with h | ⟨a, ho, rfl, e, h⟩
  · cases h with
    | bl => rfl
    | obj h ho => cases ho
  · cases h
theorem IsT.int {v : V} {i : Int} (h : IsT K cm F H v (.int i)) : v = .int i := by
  rcases h with h | ⟨a, ho, rfl, e, h⟩
  · cases h with
    | int => rfl
    | obj h ho => cases ho
  · cases h
theorem IsT.str {v : V} {x : Str} (h : IsT K cm F H v (.str x)) : v = .str x := by
  rcases h with h | ⟨a, ho, rfl, e, h⟩
  · cases h with
    | str => rfl
    | obj h ho => cases ho
  · cases h
theorem IsT.ty {v : V} {n : String} (h : IsT K cm F H v (.ty n)) : v = .ty n := by
  rcases h with h | ⟨a, ho, rfl, e, h⟩
  · cases h with
    | ty => rfl
    | obj h ho => cases ho
  · cases h
theorem IsT.cls {v : V} {c : Nat} (h : IsT K cm F H v (.cls c)) : v = .ref (cm c) := by
  rcases h with h | ⟨a, ho, rfl, e, h⟩
  · cases h with
    | cls => rfl
    | obj h ho => cases ho
  · cases h
theorem IsT.lst {v : V} {ds : List D} (hh : Same F H) (h : IsT K cm F H v (.lst ds)) : ∃ a vs, v = .ref a ∧ SqL K H a vs ∧ IsAll K cm F vs ds := by
  rcases h with h | ⟨a, ho, rfl, e, h⟩
  · cases h with
    | klst h hs => exact ⟨_, _, rfl, sql_same hh h, hs⟩
    | obj h ho =>
      cases ho with
      | lst hs => exact ⟨_, _, rfl, .inl (.of (hh _ _ (h.flat rfl))), hs⟩
  · cases h with
    | lst hs => exact ⟨_, _, rfl, .inl (.of e), hs⟩
theorem IsT.tup {v : V} {ds : List D} (hh : Same F H) (h : IsT K cm F H v (.tup ds)) : ∃ a vs, v = .ref a ∧ SqT K H a vs ∧ IsAll K cm F vs ds := by
  rcases h with h | ⟨a, ho, rfl, e, h⟩
  · cases h with
    | ktup h hs => exact ⟨_, _, rfl, .of (hh _ _ h), hs⟩
    | obj h ho => cases ho
  · cases h
theorem IsT.tupD {v : V} {ds : List D} (h : IsT K cm F H v (.tup ds)) : ∃ a vs, v = .ref a ∧ F a = some (.tup vs) ∧ IsAll K cm F vs ds := by
  rcases h with h | ⟨a, ho, rfl, e, h⟩
  · cases h with
    | ktup h hs => exact ⟨_, _, rfl, h, hs⟩
    | obj h ho => cases ho
  · cases h
theorem IsT.dic {v : V} {ks vs : List D} (hh : Same F H) (h : IsT K cm F H v (.dic ks vs)) : ∃ a ho, v = .ref a ∧ RdD H a ho ∧ OwnIs K cm F ho (.dic ks vs) := by
  rcases h with h | ⟨a, ho, rfl, e, h⟩
  · cases h with
    | obj h ho => exact ⟨_, _, rfl, h.mono hh, ho⟩
  · exact ⟨_, _, rfl, .inl e, h⟩
theorem IsT.ins {v : V} {c : Nat} {fs : List Str} {vs : List D} (hh : Same F H) (h : IsT K cm F H v (.ins c fs vs)) : ∃ a dx ws, v = .ref a ∧ H a = some (.ins (cm c) dx ws) ∧ ws.map (·.1) = fs ∧ IsAll K cm F (ws.map (·.2)) vs := by
  rcases h with h | ⟨a, ho, rfl, e, h⟩
  · cases h with
    | obj h ho =>
      cases ho with
      | ins hf hs => exact ⟨_, _, _, rfl, hh _ _ (h.flat rfl), hf, hs⟩
  · cases h with
    | ins hf hs => exact ⟨_, _, _, rfl, e, hf, hs⟩
theorem IsT.exc {v : V} {c : Nat} {fs : List Str} {vs : List D} (hh : Same F H) (h : IsT K cm F H v (.exc c fs vs)) : ∃ a dx, v = .ref a ∧ H a = some (ExcO a (cm c) dx) ∧
    ((∃ d ws, dx = some d ∧ H d = some (.xd ws) ∧ ws.map (·.1) = fs ∧ IsAll K cm F (ws.map (·.2)) vs) ∨ (dx = none ∧ fs = [] ∧ vs = [])) := by
  rcases h with h | ⟨a, ho, rfl, e, h⟩
  · cases h with
    | exc h hd hf hs => exact ⟨_, _, rfl, hh _ _ h, .inl ⟨_, _, rfl, hh _ _ hd, hf, hs⟩⟩
    | exc0 h => exact ⟨_, _, rfl, hh _ _ h, .inr ⟨rfl, rfl, rfl⟩⟩
    | obj h ho => cases ho
  · cases h

/-! ### steps -/
/-- what stood stands; F': what is data behind it -/
structure Step (F H F' H' : Hp) : Prop where
  hh : Same H H'
  ff : Same F F'
  fh : Same F' H'
  nw : ∀ p o, F' p = some o → F p = some o ∨ H p = none
theorem Step.refl (h : Same F H) : Step F H F H := ⟨.refl _, .refl _, h, fun _ _ e => .inl e⟩
theorem Step.trans {F1 H1 F2 H2 : Hp} (a : Step F H F1 H1) (b : Step F1 H1 F2 H2) : Step F H F2 H2 :=
  ⟨a.hh.trans b.hh, a.ff.trans b.ff, b.fh, fun p o e => by
    rcases b.nw p o e with h | h
    · exact a.nw p o h
    · exact .inr (a.hh.free h)⟩
theorem _root_.L2.Same.up {p : Addr} {o : HO} (h : H p = none) : Same H (upd H p o) := fun b u e => by
  rw [upd_ne (ne_of_none e h)]; exact e
theorem _root_.L2.Same.upd2 {p : Addr} {o : HO} (h : Same F H) : Same (upd F p o) (upd H p o) := fun b u e => by
  by_cases hb : b = p
  · subst hb; rw [upd_same] at e; cases e; exact upd_same
  · rw [upd_ne hb] at e; rw [upd_ne hb]; exact h b u e
theorem Step.new {p : Addr} {o : HO} (h : Same F H) (n : H p = none) : Step F H (upd F p o) (upd H p o) :=
  ⟨.up n, .up (h.free n), h.upd2, fun b u e => by
    by_cases hb : b = p
    · subst hb; exact .inr n
    · rw [upd_ne hb] at e; exact .inl e⟩
/-- a new object that is not data yet -/
theorem Step.newOwn {p : Addr} {o : HO} (h : Same F H) (n : H p = none) : Step F H F (upd H p o) :=
  ⟨.up n, .refl _, h.trans (.up n), fun _ _ e => .inl e⟩
/-- an object becomes data -/
theorem _root_.L2.Same.fr {p : Addr} {o : HO} (h : Same F H) (e : H p = some o) : Same (upd F p o) H := fun b u q => by
  by_cases hb : b = p
  · subst hb; rw [upd_same] at q; cases q; exact e
  · rw [upd_ne hb] at q; exact h b u q
theorem OwnIs.fr {p : Addr} {ho : HO} {d : D} (h : OwnIs K cm F ho d) (n : F p = none) : Is K cm (upd F p ho) (.ref p) d :=
  .obj (.inl upd_same) (h.mono (.up n))
end

/-! ### the state of a frame -/
/-- B: what stood ahead (nothing of it changes); F0: what was data ahead; F: what is data; io: the object in slot 0 that the caller lent -/
structure Sat (K : PySem.W.Frag) (cm : Nat → Addr) (io : Option Addr) (B F0 F : Hp) (Γ : List Sl) (σ : St) (H : Hp) : Prop where
  fh : Same F H
  bh : Same B H
  f0 : Same F0 F
  nw : ∀ p o, F p = some o → F0 p = some o ∨ B p = none
  len : Γ.length = σ.length
  dt : ∀ (i : Nat) (d : D), Γ[i]? = some (.dat d) → ∃ v, σ[i]? = some (some v) ∧ Is K cm F v d
  ow : ∀ (i : Nat) (d : D), Γ[i]? = some (.own d) → ∃ a ho, σ[i]? = some (some (.ref a)) ∧ F a = none ∧ B a = none ∧ H a = some ho ∧ OwnIs K cm F ho d
  ap : ∀ (i j : Nat) (d e : D) (a : Addr), Γ[i]? = some (.own d) → Γ[j]? = some (.own e) → σ[i]? = some (some (.ref a)) → σ[j]? = some (some (.ref a)) → i = j
  ioA : ∀ a : Addr, io = some a → σ[0]? = some (some (.ref a))

def IsRf (K : PySem.W.Frag) (cm : Nat → Addr) (B F : Hp) (Γ : List Sl) (σ : St) (H : Hp) (v : V) : Rf → Prop
  | .dat d => Is K cm F v d
  | .own d => ∃ a ho, v = .ref a ∧ F a = none ∧ B a = none ∧ H a = some ho ∧ OwnIs K cm F ho d ∧ ∀ (i : Nat) (e : D), Γ[i]? = some (.own e) → σ[i]? ≠ some (some (.ref a))
  | .slot i => σ[i]? = some (some v) ∧ ∃ d, Γ[i]? = some (.own d)

/-- an own exception as it is raised: its class, its dict -/
def IsExc (K : PySem.W.Frag) (cm : Nat → Addr) (F : Hp) (cls : Value) (dx : Option Addr) : D → Prop
  | .exc c fs vs => cls = .ref (cm c) ∧ ((∃ d ws, dx = some d ∧ F d = some (.xd ws) ∧ ws.map (·.1) = fs ∧ IsAll K cm F (ws.map (·.2)) vs) ∨ (dx = none ∧ fs = [] ∧ vs = []))
  | _ => False
theorem IsExc.mono {K : PySem.W.Frag} {cm : Nat → Addr} {F F' : Hp} {cls : Value} {dx : Option Addr} {e : D} (s : Same F F') (h : IsExc K cm F cls dx e) : IsExc K cm F' cls dx e := by
  cases e with
  | exc c fs vs =>
    obtain ⟨h1, h2⟩ := h
    refine ⟨h1, ?_⟩
    rcases h2 with ⟨d, ws, h2, h3, h4, h5⟩ | h2
    · exact .inl ⟨d, ws, h2, s _ _ h3, h4, h5.mono s _⟩
    · exact .inr h2
  | _ => exact h.elim

section
variable {K : PySem.W.Frag} {cm : Nat → Addr} {io : Option Addr} {B F0 F F' : Hp} {Γ : List Sl} {σ : St} {H H' : Hp}

theorem Sat.step (S : Sat K cm io B F0 F Γ σ H) (t : Step F H F' H') : Sat K cm io B F0 F' Γ σ H' where
  fh := t.fh
  bh := S.bh.trans t.hh
  f0 := S.f0.trans t.ff
  nw := fun p o e => by
    rcases t.nw p o e with h | h
    · exact S.nw p o h
    · exact .inr (S.bh.free h)
  len := S.len
  dt := fun i d e => let ⟨v, h1, h2⟩ := S.dt i d e; ⟨v, h1, h2.mono t.ff _⟩
  ow := fun i d e => by
    obtain ⟨a, ho, h1, h2, h3, h4, h5⟩ := S.ow i d e
    refine ⟨a, ho, h1, ?_, h3, t.hh _ _ h4, h5.mono t.ff⟩
    cases q : F' a with
    | none => rfl
    | some o =>
      rcases t.nw a o q with z | z
      · rw [h2] at z; cases z
      · rw [h4] at z; cases z
  ap := S.ap
  ioA := S.ioA
/-- a new own object p becomes data -/
theorem Sat.fr (S : Sat K cm io B F0 F Γ σ H) {p : Addr} {ho : HO} (n : F p = none) (nB : B p = none) (e : H p = some ho) (hn : ∀ (i : Nat) (d : D), Γ[i]? = some (.own d) → σ[i]? ≠ some (some (.ref p))) :
    Sat K cm io B F0 (upd F p ho) Γ σ H where
  fh := S.fh.fr e
  bh := S.bh
  f0 := S.f0.trans (.up n)
  nw := fun q o h => by
    by_cases hq : q = p
    · subst hq; exact .inr nB
    · rw [upd_ne hq] at h; exact S.nw q o h
  len := S.len
  dt := fun i d h => let ⟨v, h1, h2⟩ := S.dt i d h; ⟨v, h1, h2.mono (.up n) _⟩
  ow := fun i d h => by
    obtain ⟨a, ho', h1, h2, h3, h4, h5⟩ := S.ow i d h
    have ne : a ≠ p := fun z => hn i d h (by rw [h1, z])
    exact ⟨a, ho', h1, by rw [upd_ne ne]; exact h2, h3, h4, h5.mono (.up n)⟩
  ap := S.ap
  ioA := S.ioA
theorem get_set {α : Type} {l : List α} {i j : Nat} {x y : α} (h : (l.set i x)[j]? = some y) : (j = i ∧ i < l.length ∧ y = x) ∨ (j ≠ i ∧ l[j]? = some y) := by
  by_cases e : j = i
  · subst e
    by_cases hl : j < l.length
    · rw [List.getElem?_set_self hl] at h
      exact .inl ⟨rfl, hl, (Option.some.inj h).symm⟩
    · rw [List.getElem?_eq_none (by simpa using hl)] at h; cases h
  · rw [List.getElem?_set_ne (Ne.symm e)] at h
    exact .inr ⟨e, h⟩
theorem lt_of_get {α : Type} {l : List α} {i : Nat} {x : α} (h : l[i]? = some x) : i < l.length := (List.getElem?_eq_some_iff.mp h).1
/-- the own object of slot i becomes data -/
theorem Sat.frSlot (S : Sat K cm io B F0 F Γ σ H) {i : Nat} {d : D} (e : Γ[i]? = some (.own d)) :
    ∃ a ho F', σ[i]? = some (some (.ref a)) ∧ H a = some ho ∧ F' = upd F a ho ∧ Same F F' ∧ Is K cm F' (.ref a) d ∧ Sat K cm io B F0 F' (Γ.set i (.dat d)) σ H := by
  obtain ⟨a, ho, h1, h2, h3, h4, h5⟩ := S.ow i d e
  refine ⟨a, ho, _, h1, h4, rfl, .up h2, h5.fr h2, ?_⟩
  refine ⟨S.fh.fr h4, S.bh, S.f0.trans (.up h2), fun q o h => ?_, by rw [List.length_set]; exact S.len, fun j d' h => ?_, fun j d' h => ?_, fun j k d1 d2 b g1 g2 g3 g4 => ?_, S.ioA⟩
  · by_cases hq : q = a
    · subst hq; exact .inr h3
    · rw [upd_ne hq] at h; exact S.nw q o h
  · rcases get_set h with ⟨rfl, _, q⟩ | ⟨hj, q⟩
    · injection q with q; subst q
      exact ⟨_, h1, h5.fr h2⟩
    · obtain ⟨v, g1, g2⟩ := S.dt j d' q
      exact ⟨v, g1, g2.mono (.up h2) _⟩
  · rcases get_set h with ⟨rfl, _, q⟩ | ⟨hj, q⟩
    · cases q
    · obtain ⟨a', ho', g1, g2, g3, g4, g5⟩ := S.ow j d' q
      have ne : a' ≠ a := fun z => hj (S.ap j i d' d a q e (by rw [g1, z]) h1)
      exact ⟨a', ho', g1, by rw [upd_ne ne]; exact g2, g3, g4, g5.mono (.up h2)⟩
  · rcases get_set g1 with ⟨rfl, _, q⟩ | ⟨hj, q⟩
    · cases q
    · rcases get_set g2 with ⟨rfl, _, q'⟩ | ⟨hk, q'⟩
      · cases q'
      · exact S.ap j k d1 d2 b q q' g3 g4
/-- data is stored into slot i (not the lent one) -/
theorem Sat.set (S : Sat K cm io B F0 F Γ σ H) {i : Nat} {v : V} {d : D} (hi : io = none ∨ i ≠ 0) (h : Is K cm F v d) : Sat K cm io B F0 F (Γ.set i (.dat d)) (σ.set i (some v)) H := by
  refine ⟨S.fh, S.bh, S.f0, S.nw, by rw [List.length_set, List.length_set]; exact S.len, fun j d' e => ?_, fun j d' e => ?_, fun j k d1 d2 b g1 g2 g3 g4 => ?_, fun a ha => ?_⟩
  · rcases get_set e with ⟨rfl, hl, q⟩ | ⟨hj, q⟩
    · injection q with q; subst q
      exact ⟨v, by rw [List.getElem?_set_self (by rw [← S.len]; exact hl)], h⟩
    · obtain ⟨w, g1, g2⟩ := S.dt j d' q
      exact ⟨w, by rw [List.getElem?_set_ne (Ne.symm hj)]; exact g1, g2⟩
  · rcases get_set e with ⟨rfl, hl, q⟩ | ⟨hj, q⟩
    · cases q
    · obtain ⟨a', ho', g1, g2⟩ := S.ow j d' q
      exact ⟨a', ho', by rw [List.getElem?_set_ne (Ne.symm hj)]; exact g1, g2⟩
  · rcases get_set g1 with ⟨rfl, _, q⟩ | ⟨hj, q⟩
    · cases q
    · rcases get_set g2 with ⟨rfl, _, q'⟩ | ⟨hk, q'⟩
      · cases q'
      · rw [List.getElem?_set_ne (Ne.symm hj)] at g3
        rw [List.getElem?_set_ne (Ne.symm hk)] at g4
        exact S.ap j k d1 d2 b q q' g3 g4
  · rcases hi with hi | hi
    · rw [hi] at ha; cases ha
    · rw [List.getElem?_set_ne hi]; exact S.ioA a ha
/-- a new own object is stored into slot i -/
theorem Sat.setOwn (S : Sat K cm io B F0 F Γ σ H) {i : Nat} {a : Addr} {ho : HO} {d : D} (hi : io = none ∨ i ≠ 0) (n : F a = none) (nB : B a = none) (e : H a = some ho) (h : OwnIs K cm F ho d)
    (hn : ∀ (i : Nat) (d : D), Γ[i]? = some (.own d) → σ[i]? ≠ some (some (.ref a))) : Sat K cm io B F0 F (Γ.set i (.own d)) (σ.set i (some (.ref a))) H := by
  refine ⟨S.fh, S.bh, S.f0, S.nw, by rw [List.length_set, List.length_set]; exact S.len, fun j d' e => ?_, fun j d' e' => ?_, fun j k d1 d2 b g1 g2 g3 g4 => ?_, fun a ha => ?_⟩
  · rcases get_set e with ⟨rfl, hl, q⟩ | ⟨hj, q⟩
    · cases q
    · obtain ⟨w, g1, g2⟩ := S.dt j d' q
      exact ⟨w, by rw [List.getElem?_set_ne (Ne.symm hj)]; exact g1, g2⟩
  · rcases get_set e' with ⟨rfl, hl, q⟩ | ⟨hj, q⟩
    · injection q with q; subst q
      exact ⟨a, ho, by rw [List.getElem?_set_self (by rw [← S.len]; exact hl)], n, nB, e, h⟩
    · obtain ⟨a', ho', g1, g2⟩ := S.ow j d' q
      exact ⟨a', ho', by rw [List.getElem?_set_ne (Ne.symm hj)]; exact g1, g2⟩
  · rcases get_set g1 with ⟨rfl, hl, q⟩ | ⟨hj, q⟩
    · rcases get_set g2 with ⟨rfl, _, q'⟩ | ⟨hk, q'⟩
      · rfl
      · rw [List.getElem?_set_self (by rw [← S.len]; exact hl)] at g3
        rw [List.getElem?_set_ne (Ne.symm hk)] at g4
        injection g3 with g3; injection g3 with g3; injection g3 with g3; subst g3
        exact absurd g4 (hn k d2 q')
    · rcases get_set g2 with ⟨rfl, hl, q'⟩ | ⟨hk, q'⟩
      · rw [List.getElem?_set_self (by rw [← S.len]; exact hl)] at g4
        rw [List.getElem?_set_ne (Ne.symm hj)] at g3
        injection g4 with g4; injection g4 with g4; injection g4 with g4; subst g4
        exact absurd g3 (hn j d1 q)
      · rw [List.getElem?_set_ne (Ne.symm hj)] at g3
        rw [List.getElem?_set_ne (Ne.symm hk)] at g4
        exact S.ap j k d1 d2 b q q' g3 g4
  · rcases hi with hi | hi
    · rw [hi] at ha; cases ha
    · rw [List.getElem?_set_ne hi]; exact S.ioA a ha
/-- a slot is emptied -/
theorem Sat.wipe1 (S : Sat K cm io B F0 F Γ σ H) {i : Nat} (hi : io = none ∨ i ≠ 0) : Sat K cm io B F0 F (Γ.set i .un) (σ.set i none) H := by
  refine ⟨S.fh, S.bh, S.f0, S.nw, by rw [List.length_set, List.length_set]; exact S.len, fun j d' e => ?_, fun j d' e => ?_, fun j k d1 d2 b g1 g2 g3 g4 => ?_, fun a ha => ?_⟩
  · rcases get_set e with ⟨rfl, hl, q⟩ | ⟨hj, q⟩
    · cases q
    · obtain ⟨w, g1, g2⟩ := S.dt j d' q
      exact ⟨w, by rw [List.getElem?_set_ne (Ne.symm hj)]; exact g1, g2⟩
  · rcases get_set e with ⟨rfl, hl, q⟩ | ⟨hj, q⟩
    · cases q
    · obtain ⟨a', ho', g1, g2⟩ := S.ow j d' q
      exact ⟨a', ho', by rw [List.getElem?_set_ne (Ne.symm hj)]; exact g1, g2⟩
  · rcases get_set g1 with ⟨rfl, _, q⟩ | ⟨hj, q⟩
    · cases q
    · rcases get_set g2 with ⟨rfl, _, q'⟩ | ⟨hk, q'⟩
      · cases q'
      · rw [List.getElem?_set_ne (Ne.symm hj)] at g3
        rw [List.getElem?_set_ne (Ne.symm hk)] at g4
        exact S.ap j k d1 d2 b q q' g3 g4
  · rcases hi with hi | hi
    · rw [hi] at ha; cases ha
    · rw [List.getElem?_set_ne hi]; exact S.ioA a ha
/-- a slot is forgotten, its value stands -/
theorem Sat.un1 (S : Sat K cm io B F0 F Γ σ H) {i : Nat} : Sat K cm io B F0 F (Γ.set i .un) σ H := by
  refine ⟨S.fh, S.bh, S.f0, S.nw, by rw [List.length_set]; exact S.len, fun j d' e => ?_, fun j d' e => ?_, fun j k d1 d2 b g1 g2 g3 g4 => ?_, S.ioA⟩
  · rcases get_set e with ⟨rfl, hl, q⟩ | ⟨hj, q⟩
    · cases q
    · exact S.dt j d' q
  · rcases get_set e with ⟨rfl, hl, q⟩ | ⟨hj, q⟩
    · cases q
    · exact S.ow j d' q
  · rcases get_set g1 with ⟨rfl, _, q⟩ | ⟨hj, q⟩
    · cases q
    · rcases get_set g2 with ⟨rfl, _, q'⟩ | ⟨hk, q'⟩
      · cases q'
      · exact S.ap j k d1 d2 b q q' g3 g4
/-- the own object of slot i is changed: what stood of the others stands -/
theorem Sat.write (S : Sat K cm io B F0 F Γ σ H) {i : Nat} {d d' : D} {a : Addr} {ho' : HO} {F' H' : Hp} (e : Γ[i]? = some (.own d)) (ea : σ[i]? = some (some (.ref a)))
    (hh : ∀ b o, b ≠ a → H b = some o → H' b = some o) (ff : Same F F') (fh : Same F' H') (nw : ∀ p o, F' p = some o → F p = some o ∨ H p = none) (ha : H' a = some ho') (h : OwnIs K cm F' ho' d') :
    Sat K cm io B F0 F' (Γ.set i (.own d')) σ H' := by
  obtain ⟨a0, ho, h1, h2, h3, h4, h5⟩ := S.ow i d e
  rw [ea] at h1; injection h1 with h1; injection h1 with h1; injection h1 with h1; subst h1
  have fn : ∀ b o, F b = none → H b = some o → F' b = none := fun b o z q => by
    cases w : F' b with
    | none => rfl
    | some u =>
      rcases nw b u w with y | y
      · rw [z] at y; cases y
      · rw [q] at y; cases y
  refine ⟨fh, fun b o q => hh b o (fun z => by subst z; rw [h3] at q; cases q) (S.bh b o q), S.f0.trans ff, fun p o q => ?_, by rw [List.length_set]; exact S.len, fun j d1 q => ?_, fun j d1 q => ?_, fun j k d1 d2 b g1 g2 g3 g4 => ?_, S.ioA⟩
  · rcases nw p o q with y | y
    · exact S.nw p o y
    · exact .inr (S.bh.free y)
  · rcases get_set q with ⟨rfl, _, q⟩ | ⟨hj, q⟩
    · cases q
    · obtain ⟨v, g1, g2⟩ := S.dt j d1 q
      exact ⟨v, g1, g2.mono ff _⟩
  · rcases get_set q with ⟨rfl, _, q⟩ | ⟨hj, q⟩
    · injection q with q; subst q
      exact ⟨a, ho', ea, fn a _ h2 h4, h3, ha, h⟩
    · obtain ⟨a', ho1, g1, g2, g3, g4, g5⟩ := S.ow j d1 q
      have ne : a' ≠ a := fun z => hj (S.ap j i d1 d a q e (by rw [g1, z]) ea)
      exact ⟨a', ho1, g1, fn a' _ g2 g4, g3, hh _ _ ne g4, g5.mono ff⟩
  · have key : ∀ (j : Nat) (d1 : D), (Γ.set i (.own d'))[j]? = some (.own d1) → ∃ d2 : D, Γ[j]? = some (.own d2) := fun j d1 g => by
      rcases get_set g with ⟨rfl, _, q⟩ | ⟨hj, q⟩
      · exact ⟨d, e⟩
      · exact ⟨d1, q⟩
    obtain ⟨x, gx⟩ := key j d1 g1
    obtain ⟨y, gy⟩ := key k d2 g2
    exact S.ap j k x y b gx gy g3 g4

/-! ### operands and captured values -/
theorem IsRf.opnd {v : V} {d : D} (S : Sat K cm io B F0 F Γ σ H) (h : IsRf K cm B F Γ σ H v (.own d)) : ∃ F', Same F F' ∧ Sat K cm io B F0 F' Γ σ H ∧ Is K cm F' v d := by
  obtain ⟨a, ho, rfl, h2, h3, h4, h5, h6⟩ := h
  exact ⟨_, .up h2, S.fr h2 h3 h4 h6, h5.fr h2⟩
end

/-- a new own value becomes data; a slot's object stays the slot's -/
def opR : Rf → Rf
  | .own d => .dat d
  | r => r
def opnd (c : M Rf) : M Rf := bnd c fun r => ret (opR r)
/-- the value is kept by somebody: a slot's object becomes data -/
def capR : Rf → M D
  | .dat d => ret d
  | .own d => ret d
  | .slot i => fun Γ => match Γ[i]? with
    | some (.own d) => some (.ok d, Γ.set i (.dat d))
    | _ => none
def cap (c : M Rf) : M D := bnd c capR
/-- what an operand is at the time of the operation -/
def rsv (Γ : List Sl) : Rf → Option D
  | .dat d => some d
  | .own d => none
  | .slot i => match Γ[i]? with
    | some (.own d) => some d
    | some (.dat d) => some d
    | _ => none

/-! ### runs -/
structure Tx where
  X : Cx
  cm : Nat → Addr
  W : WX
  io : Option Addr
abbrev Tx.Sat (T : Tx) := DL.Sat T.X.K T.cm T.io
abbrev Tx.Is (T : Tx) := DL.Is T.X.K T.cm
def Run (T : Tx) (B F0 : Hp) {α : Type} (c : M α) (F : Hp) (Γ : List Sl) (σ : St) (H : Hp) (P : α → Hp → List Sl → Hp → Prop) : Prop :=
  T.Sat B F0 F Γ σ H ∧ match c Γ with
    | none => False
    | some (.ok a, Γ') => ∀ F' H', Same F F' → T.Sat B F0 F' Γ' σ H' → P a F' Γ' H'
    | some (.error e, Γ') => ∀ F' H' cls dx, Same F F' → T.Sat B F0 F' Γ' σ H' → IsExc T.X.K T.cm F' cls dx e → T.W cls dx σ H'
section
variable {T : Tx} {B F0 F : Hp} {Γ : List Sl} {σ : St} {H : Hp} {α β : Type}
theorem Run.mono {c : M α} {P P' : α → Hp → List Sl → Hp → Prop} (r : Run T B F0 c F Γ σ H P) (h : ∀ a F' Γ' H', Same F F' → T.Sat B F0 F' Γ' σ H' → P a F' Γ' H' → P' a F' Γ' H') : Run T B F0 c F Γ σ H P' := by
  obtain ⟨S, r⟩ := r
  refine ⟨S, ?_⟩
  rcases e : c Γ with _ | ⟨x | a, Γ'⟩
  · rw [e] at r; exact r
  · rw [e] at r; exact r
  · rw [e] at r
    exact fun F' H' q S' => h a F' Γ' H' q S' (r F' H' q S')
theorem Run.bnd {c : M α} {k : α → M β} {P : β → Hp → List Sl → Hp → Prop} (r : Run T B F0 (DL.bnd c k) F Γ σ H P) : Run T B F0 c F Γ σ H fun a F' Γ' H' => Run T B F0 (k a) F' Γ' σ H' P := by
  obtain ⟨S, r⟩ := r
  refine ⟨S, ?_⟩
  rcases e : c Γ with _ | ⟨x | a, Γ'⟩
  · rw [bnd_none e] at r; exact r
  · rw [bnd_err e] at r; exact r
  · rw [bnd_ok e] at r
    refine fun F' H' q S' => ⟨S', ?_⟩
    rcases e2 : k a Γ' with _ | ⟨x | b, Γ''⟩
    · rw [e2] at r; exact r
    · rw [e2] at r
      exact fun F'' H'' cls dx q2 S2 i => r F'' H'' cls dx (q.trans q2) S2 i
    · rw [e2] at r
      exact fun F'' H'' q2 S2 => r F'' H'' (q.trans q2) S2
theorem Run.ret {a : α} {P : α → Hp → List Sl → Hp → Prop} (r : Run T B F0 (DL.ret a) F Γ σ H P) : T.Sat B F0 F Γ σ H ∧ P a F Γ H := ⟨r.1, r.2 F H (.refl _) r.1⟩
/-- a pure step ahead -/
theorem Run.step {c : M α} {P : α → Hp → List Sl → Hp → Prop} {F' H' : Hp} (r : Run T B F0 c F Γ σ H P) (q : Same F F') (S' : T.Sat B F0 F' Γ σ H') : Run T B F0 c F' Γ σ H' P := by
  obtain ⟨S, r⟩ := r
  refine ⟨S', ?_⟩
  rcases e : c Γ with _ | ⟨x | a, Γ'⟩
  · rw [e] at r; exact r
  · rw [e] at r
    exact fun F'' H'' cls dx q2 S2 i => r F'' H'' cls dx (q.trans q2) S2 i
  · rw [e] at r
    exact fun F'' H'' q2 S2 => r F'' H'' (q.trans q2) S2
end
/-- an expression's reading -/
def tS (T : Tx) (B F0 : Hp) (c : M Rf) : TE := fun σ H Q => ∃ F Γ, Run T B F0 c F Γ σ H fun r F' Γ' H' => ∀ v, IsRf T.X.K T.cm B F' Γ' σ H' v r → Q v H'
/-- .. of a captured one -/
def tD (T : Tx) (B F0 : Hp) (c : M D) : TE := fun σ H Q => ∃ F Γ, Run T B F0 c F Γ σ H fun d F' Γ' H' => ∀ v, T.Is F' v d → Q v H'
def tT (T : Tx) (B F0 : Hp) (c : M Bool) : TT := fun σ H Q => ∃ F Γ, Run T B F0 c F Γ σ H fun b F' Γ' H' => Q b H'
def tA (T : Tx) (B F0 : Hp) (c : M (List D)) : TA := fun σ H Q => ∃ F Γ, Run T B F0 c F Γ σ H fun ds F' Γ' H' => ∀ vs, IsAll T.X.K T.cm F' vs ds → Q vs H'
/-- the expression e gives what c says -/
def RE (T : Tx) (e : Expr) (c : M Rf) : Prop := ∀ B F0, PE T.X e (tS T B F0 c)
def RD (T : Tx) (e : Expr) (c : M D) : Prop := ∀ B F0, PE T.X e (tD T B F0 c)
def RT (T : Tx) (e : Expr) (c : M Bool) : Prop := ∀ B F0, PT T.X e (tT T B F0 c)
def RA (T : Tx) (es : List Expr) (c : M (List D)) : Prop := ∀ B F0, PA T.X es (tA T B F0 c)

theorem _root_.L2.PE.weak {X : Cx} {e : Expr} {t t' : TE} (h : PE X e t) (w : ∀ σ H Q, t' σ H Q → t σ H Q) : PE X e t' := ⟨fun pins s σ H Q I q => h.run pins s σ H Q I (w σ H Q q)⟩
theorem _root_.L2.PT.weak {X : Cx} {e : Expr} {t t' : TT} (h : PT X e t) (w : ∀ σ H Q, t' σ H Q → t σ H Q) : PT X e t' := ⟨fun pins s σ H Q I q => h.run pins s σ H Q I (w σ H Q q)⟩
theorem _root_.L2.PA.weak {X : Cx} {es : List Expr} {t t' : TA} (h : PA X es t) (w : ∀ σ H Q, t' σ H Q → t σ H Q) : PA X es t' := ⟨fun pos pins s σ H Q I q => h.run pos pins s σ H Q I (w σ H Q q)⟩
theorem _root_.L2.PS.weak {X : Cx} {e : Stmt} {t t' : TS} (h : PS X e t) (w : ∀ D σ H, t' D σ H → t D σ H) : PS X e t' := ⟨fun pins s σ H D I q => h.run pins s σ H D I (w D σ H q)⟩
theorem _root_.L2.PSs.weak {X : Cx} {e : List Stmt} {t t' : TS} (h : PSs X e t) (w : ∀ D σ H, t' D σ H → t D σ H) : PSs X e t' := ⟨fun pins s σ H D I q => h.run pins s σ H D I (w D σ H q)⟩

section
variable {T : Tx} {B F0 F : Hp} {Γ : List Sl} {σ : St} {H : Hp} {e : Expr} {c : M Rf}
/-- a captured value -/
theorem rd_of (h : RE T e c) : RD T e (cap c) := fun B F0 => (h B F0).weak fun σ H Q ⟨F, Γ, r⟩ => by
  refine ⟨F, Γ, r.bnd.mono fun r' F' Γ' H' q S' r2 v hv => ?_⟩
  cases r' with
  | dat d => exact r2.ret.2 v hv
  | own d =>
    obtain ⟨F2, q2, S2, i2⟩ := IsRf.opnd S' hv
    exact (r2.step q2 S2).ret.2 v i2
  | slot i =>
    obtain ⟨h1, d, h2⟩ := hv
    obtain ⟨_, r2⟩ := r2
    obtain ⟨a, ho, F2, g1, g2, rfl, g3, g4, g5⟩ := S'.frSlot h2
    rw [g1] at h1; injection h1 with h1; injection h1 with h1; subst h1
    unfold capR at r2
    simp only [h2] at r2
    exact r2 _ H' g3 g5 _ g4
/-- an operand (data, or a slot's object) -/
theorem re_opnd (h : RE T e c) : RE T e (opnd c) := fun B F0 => (h B F0).weak fun σ H Q ⟨F, Γ, r⟩ => by
  refine ⟨F, Γ, r.bnd.mono fun r' F' Γ' H' q S' r2 v hv => ?_⟩
  cases r' with
  | dat d => exact r2.ret.2 v hv
  | own d =>
    obtain ⟨F2, q2, S2, i2⟩ := IsRf.opnd S' hv
    exact (r2.step q2 S2).ret.2 v i2
  | slot i => exact r2.ret.2 v hv
theorem opnd_shape {r : Rf} : (∃ d, opR r = .dat d) ∨ ∃ i, opR r = .slot i := by
  cases r with
  | dat d => exact .inl ⟨d, rfl⟩
  | own d => exact .inl ⟨d, rfl⟩
  | slot i => exact .inr ⟨i, rfl⟩
/-- a resolved operand -/
theorem IsRf.rsv {Γ' : List Sl} {F' H' : Hp} {v : V} {r : Rf} {d : D} (hv : IsRf T.X.K T.cm B F Γ σ H v r) (q : Same F F') (S' : T.Sat B F0 F' Γ' σ H') (e : DL.rsv Γ' r = some d) : IsT T.X.K T.cm F' H' v d := by
  cases r with
  | dat d' =>
    have e' : d' = d := Option.some.inj e
    subst e'
    exact .inl (Is.mono q _ hv)
  | own d' => cases e
  | slot i =>
    obtain ⟨h1, _⟩ := hv
    unfold DL.rsv at e
    simp only at e
    split at e
    · rename_i d' hd
      have e' : d' = d := Option.some.inj e
      subst e'
      obtain ⟨a, ho, g1, _, _, g4, g5⟩ := S'.ow i _ hd
      rw [g1] at h1; injection h1 with h1; injection h1 with h1; subst h1
      exact .inr ⟨a, ho, rfl, g4, g5⟩
    · rename_i d' hd
      have e' : d' = d := Option.some.inj e
      subst e'
      obtain ⟨w, g1, g2⟩ := S'.dt i _ hd
      rw [g1] at h1; injection h1 with h1; injection h1 with h1; subst h1
      exact .inl g2
    · cases e
end
end DL

/-! DL2: expressions: names, constants, operators, comparisons, tests, arguments, displays, built-in functions. -/
namespace DL
open PySem L2

/-! ### == of data -/
/-- plain data of depth at most n -/
def okD : Nat → D → Bool
  | _, .non => true
  | _, .bl _ => true
  | _, .int _ => true
  | _, .str _ => true
  | n + 1, .lst xs => xs.all (okD n)
  | n + 1, .tup xs => xs.all (okD n)
  | _, _ => false
def eqL (r : D → D → Bool) : List D → List D → Bool
  | [], [] => true
  | x :: xs, y :: ys => r x y && eqL r xs ys
  | _, _ => false
def eqF : Nat → D → D → Bool
  | _, .non, .non => true
  | _, .bl a, .bl b => a == b
  | _, .bl a, .int j => (if a then 1 else 0) == j
  | _, .int i, .bl b => i == (if b then 1 else 0)
  | _, .int i, .int j => i == j
  | _, .str x, .str y => x == y
  | n + 1, .lst xs, .lst ys => eqL (eqF n) xs ys
  | n + 1, .tup xs, .tup ys => eqL (eqF n) xs ys
  | _, _, _ => false
mutual
def py : D → PyData
  | .non => .none
  | .bl b => .bool b
  | .int i => .int i
  | .str x => .str x
  | .lst xs => .list (pyAll xs)
  | .tup xs => .tuple (pyAll xs)
  | _ => .none
def pyAll : List D → List PyData
  | [] => []
  | x :: xs => py x :: pyAll xs
end
theorem pyAll_map : ∀ xs : List D, pyAll xs = xs.map py
  | [] => by simp [pyAll]
  | x :: xs => by simp [pyAll, pyAll_map xs]
theorem py_plain : ∀ (n : Nat) (d : D), okD n d = true → (py d).plain = true ∧ (py d).depth ≤ n
  | n, .non, _ => by simp [py, PyData.plain, PyData.depth]
  | n, .bl _, _ => by simp [py, PyData.plain, PyData.depth]
  | n, .int _, _ => by simp [py, PyData.plain, PyData.depth]
  | n, .str _, _ => by simp [py, PyData.plain, PyData.depth]
  | 0, .lst _, h => by simp [okD] at h
  | 0, .tup _, h => by simp [okD] at h
  | n + 1, .lst xs, h => by
    have key : ∀ xs : List D, xs.all (okD n) = true → PyData.plainAll (pyAll xs) = true ∧ PyData.depthAll (pyAll xs) ≤ n := fun xs => by
      induction xs with
      | nil => intro _; simp [pyAll, PyData.plainAll, PyData.depthAll]
      | cons x xs ih =>
        intro h
        simp only [List.all_cons, Bool.and_eq_true] at h
        have h1 := py_plain n x h.1
        have h2 := ih h.2
        simp only [pyAll, PyData.plainAll, PyData.depthAll, h1.1, h2.1, Bool.and_self, true_and]
        omega
    have := key xs (by simpa [okD] using h)
    simp only [py, PyData.plain, PyData.depth, this.1, true_and]
    omega
  | n + 1, .tup xs, h => by
    have key : ∀ xs : List D, xs.all (okD n) = true → PyData.plainAll (pyAll xs) = true ∧ PyData.depthAll (pyAll xs) ≤ n := fun xs => by
      induction xs with
      | nil => intro _; simp [pyAll, PyData.plainAll, PyData.depthAll]
      | cons x xs ih =>
        intro h
        simp only [List.all_cons, Bool.and_eq_true] at h
        have h1 := py_plain n x h.1
        have h2 := ih h.2
        simp only [pyAll, PyData.plainAll, PyData.depthAll, h1.1, h2.1, Bool.and_self, true_and]
        omega
    have := key xs (by simpa [okD] using h)
    simp only [py, PyData.plain, PyData.depth, this.1, true_and]
    omega
  | n, .ty _, h => by cases n <;> simp [okD] at h
  | n, .cls _, h => by cases n <;> simp [okD] at h
  | n, .dic _ _, h => by cases n <;> simp [okD] at h
  | n, .ins _ _ _, h => by cases n <;> simp [okD] at h
  | n, .exc _ _ _, h => by cases n <;> simp [okD] at h
theorem eqF_py : ∀ (n : Nat) (d e : D), okD n d = true → okD n e = true → PyData.eqv (py d) (py e) = eqF n d e := by
  intro n
  induction n with
  | zero =>
    intro d e h g
    cases d <;> first | (simp [okD] at h; done) | (cases e <;> first | (simp [okD] at g; done) | simp [py, PyData.eqv, eqF])
  | succ n ih =>
    have key : ∀ xs ys : List D, xs.all (okD n) = true → ys.all (okD n) = true → PyData.eqvAll (pyAll xs) (pyAll ys) = eqL (eqF n) xs ys := fun xs => by
      induction xs with
      | nil => intro ys _ _; cases ys <;> simp [pyAll, PyData.eqvAll, eqL]
      | cons x xs ih2 =>
        intro ys h g
        cases ys with
        | nil => simp [pyAll, PyData.eqvAll, eqL]
        | cons y ys =>
          simp only [List.all_cons, Bool.and_eq_true] at h g
          simp only [pyAll, PyData.eqvAll, eqL, ih x y h.1 g.1, ih2 ys h.2 g.2]
    intro d e h g
    cases d with
    | lst xs =>
      cases e with
      | lst ys => simp only [py, PyData.eqv, eqF]; exact key xs ys (by simpa [okD] using h) (by simpa [okD] using g)
      | _ => first | (simp [okD] at g; done) | simp [py, PyData.eqv, eqF]
    | tup xs =>
      cases e with
      | tup ys => simp only [py, PyData.eqv, eqF]; exact key xs ys (by simpa [okD] using h) (by simpa [okD] using g)
      | _ => first | (simp [okD] at g; done) | simp [py, PyData.eqv, eqF]
    | _ => first | (simp [okD] at h; done) | (cases e <;> first | (simp [okD] at g; done) | simp [py, PyData.eqv, eqF])

section
variable {K : PySem.W.Frag} {cm : Nat → Addr} {F H : Hp}
theorem is_dp (hh : Same F H) : ∀ (n : Nat) (d : D) {v : V}, okD n d = true → IsT K cm F H v d → Dp K H v (py d) := by
  intro n
  induction n with
  | zero =>
    intro d v h i
    cases d <;> first | (simp [okD] at h; done) | skip
    · rw [i.non]; simp only [py]; exact .non
    · rw [i.bl]; simp only [py]; exact .bl _
    · rw [i.int]; simp only [py]; exact .int _
    · rw [i.str]; simp only [py]; exact .str _
  | succ n ih =>
    have key : ∀ (xs : List D) {vs : List V}, xs.all (okD n) = true → IsAll K cm F vs xs → DpAll K H vs (pyAll xs) := fun xs => by
      induction xs with
      | nil => intro vs _ i; cases i; simp only [pyAll]; exact .nil
      | cons x xs ih2 =>
        intro vs h i
        cases i with
        | cons i is =>
          simp only [List.all_cons, Bool.and_eq_true] at h
          simp only [pyAll]
          exact .cons (ih x h.1 (.inl i)) (ih2 h.2 is)
    intro d v h i
    cases d <;> first | (simp [okD] at h; done) | skip
    · rw [i.non]; simp only [py]; exact .non
    · rw [i.bl]; simp only [py]; exact .bl _
    · rw [i.int]; simp only [py]; exact .int _
    · rw [i.str]; simp only [py]; exact .str _
    · obtain ⟨a, vs, rfl, g1, g2⟩ := i.lst hh
      simp only [py]
      exact .lst g1 (key _ (by simpa [okD] using h) g2)
    · obtain ⟨a, vs, rfl, g1, g2⟩ := i.tup hh
      simp only [py]
      exact .tup g1 (key _ (by simpa [okD] using h) g2)
end

/-! ### results of pure operations -/
def Res (T : Tx) (F H : Hp) (Q : VK) : Option Rf → Prop
  | some (.dat d) => ∀ v F' H', Step F H F' H' → T.Is F' v d → Q v H'
  | some (.own d) => ∀ a ho F' H', Step F H F' H' → H a = none → F' a = none → H' a = some ho → OwnIs T.X.K T.cm F' ho d → Q (.ref a) H'
  | _ => False
def lift (o : Option Rf) : M Rf := fun Γ => match o with
  | some (.dat d) => some (.ok (.dat d), Γ)
  | some (.own d) => some (.ok (.own d), Γ)
  | _ => none
section
variable {T : Tx} {B F0 F : Hp} {Γ : List Sl} {σ : St} {H : Hp} {Q : VK}
theorem Run.lift {o : Option Rf} (r : Run T B F0 (DL.lift o) F Γ σ H fun r F' Γ' H' => ∀ v, IsRf T.X.K T.cm B F' Γ' σ H' v r → Q v H') : Res T F H Q o := by
  obtain ⟨S, r⟩ := r
  match o, r with
  | some (.dat d), r => exact fun v F' H' t i => r F' H' t.ff (S.step t) v i
  | some (.own d), r =>
    refine fun a ho F' H' t n n' e h => r F' H' t.ff (S.step t) _ ⟨a, ho, rfl, n', S.bh.free n, e, h, fun i e' hg hs => ?_⟩
    obtain ⟨a', ho', g1, _, _, g4, _⟩ := S.ow i e' hg
    rw [g1] at hs; injection hs with hs; injection hs with hs; injection hs with hs; subst hs
    rw [n] at g4; cases g4
  | some (.slot i), r => exact r
  | none, r => exact r
theorem Res.imp {F' H' : Hp} {Q' : VK} {o : Option Rf} (h : Res T F H Q o) (q : ∀ v H', Q v H' → Q' v H') : Res T F H Q' o := by
  match o, h with
  | some (.dat d), h => exact fun v F' H' t i => q _ _ (h v F' H' t i)
  | some (.own d), h => exact fun a ho F' H' t n n' e g => q _ _ (h a ho F' H' t n n' e g)
/-- data that needs no heap -/
theorem Res.val {d : D} {v : V} (h : Res T F H Q (some (.dat d))) (s : Same F H) (i : T.Is F v d) : Q v H := h v F H (.refl s) i
end

/-! ### names and constants -/
def sVar (i : Nat) : M Rf := fun Γ => match Γ[i]? with
  | some (.dat d) => some (.ok (.dat d), Γ)
  | some (.own _) => some (.ok (.slot i), Γ)
  | _ => none
def sK (d : D) : M Rf := ret (.dat d)
section
variable {T : Tx} {e a b c : Expr} {ca cb cc : M Rf} {pos : Pos}
theorem re_var (i : Nat) {x : Str} (hN : T.X.N[i]? = some x := by rfl) (hv : Vis T.X.env.scope x := by first | exact Or.inl rfl | exact Or.inr (Or.inl rfl) | exact Or.inr (Or.inr rfl)) (hd : (x == ("__debug__" : Str)) = false := by decide)
    (hcd : (x == ("__classdict__" : Str)) = false := by decide) : RE T (.Name x pos) (sVar i) := fun B F0 => (pe_var hN hv hd hcd).weak fun σ H Q ⟨F, Γ, S, r⟩ => by
  unfold sVar at r
  split at r
  · exact r.elim
  · rename_i a Γ' e
    split at e
    · rename_i d hd
      injection e with e; injection e with e1 e2; injection e1 with e1; subst e1; subst e2
      obtain ⟨v, h1, h2⟩ := S.dt i d hd
      exact ⟨v, h1, r F H (.refl _) S v h2⟩
    · rename_i d hd
      injection e with e; injection e with e1 e2; injection e1 with e1; subst e1; subst e2
      obtain ⟨a, ho, h1, _⟩ := S.ow i d hd
      exact ⟨_, h1, r F H (.refl _) S _ ⟨h1, d, hd⟩⟩
    · cases e
  · rename_i a Γ' e
    split at e
    · cases e
    · cases e
    · cases e
theorem re_const {v : V} {d : D} (h : PE T.X e (tC v)) (i : ∀ F, T.Is F v d) : RE T e (sK d) := fun B F0 => h.weak fun σ H Q ⟨F, Γ, r⟩ => r.ret.2 v (i F)
theorem re_int {i : Int} {j : Nat} : RE T (.Constant (.int i) j pos) (sK (.int i)) := re_const pe_int fun _ => .int i
theorem re_str {x : Str} {j : Nat} : RE T (.Constant (.str x) j pos) (sK (.str x)) := re_const pe_str fun _ => .str x
theorem re_bl {b : Bool} {j : Nat} : RE T (.Constant (.bool b) j pos) (sK (.bl b)) := re_const pe_bl fun _ => .bl b
theorem re_non {j : Nat} : RE T (.Constant .none j pos) (sK .non) := re_const pe_non fun _ => .non
/-- a module's constant -/
theorem re_glob {x : Str} {v : V} {u : Value} {d : D} (hm : T.X.mg x = some u) (r : RelV v u) (i : ∀ F, T.Is F v d) (hg : Gl T.X x := by rfl) (hd : (x == ("__debug__" : Str)) = false := by decide) : RE T (.Name x pos) (sK d) :=
  re_const (pe_glob hg hm r hd) i
/-- a built-in type as a value -/
theorem re_ty {x : Str} {n : String} (hm : T.X.mg x = none) (hg : Gl T.X x := by rfl) (hv : bootBuiltins x = some (.type n) := by decide +kernel) (hn : x ≠ "__name__" := by decide) (hd : (x == ("__debug__" : Str)) = false := by decide) : RE T (.Name x pos) (sK (.ty n)) :=
  re_const (v := .ty n) (pe_bltn hg hm hv rfl hn hd) fun _ => .ty n

/-! ### two-place operations -/
def app2 (f : D → D → Option Rf) (x y : Rf) : M Rf := fun Γ => match rsv Γ x, rsv Γ y with
  | some d, some e => lift (f d e) Γ
  | _, _ => none
def sBin (f : D → D → Option Rf) (a b : M Rf) : M Rf := bnd (opnd a) fun x => bnd (opnd b) fun y => app2 f x y
def rD2 (T : Tx) (f : D → D → Option Rf) : R2 := fun x y H Q => ∃ F d1 d2, Same F H ∧ IsT T.X.K T.cm F H x d1 ∧ IsT T.X.K T.cm F H y d2 ∧ Res T F H Q (f d1 d2)
def OpD (T : Tx) (g : Value → Value → Sem Value) (f : D → D → Option Rf) : Prop := OpR T.X g (rD2 T f)
theorem Run.app2 {B F0 F1 F : Hp} {Γ1 Γ : List Sl} {σ : St} {H1 H : Hp} {Q : VK} {f : D → D → Option Rf} {x y : Rf} {v u : V} (r : Run T B F0 (DL.app2 f x y) F Γ σ H fun r F' Γ' H' => ∀ v, IsRf T.X.K T.cm B F' Γ' σ H' v r → Q v H')
    (hv : IsRf T.X.K T.cm B F1 Γ1 σ H1 v x) (q : Same F1 F) (hu : IsRf T.X.K T.cm B F Γ σ H u y) : rD2 T f v u H Q := by
  obtain ⟨S, r⟩ := r
  rcases e1 : rsv Γ x with _ | d1
  · simp only [DL.app2, e1] at r
  · rcases e2 : rsv Γ y with _ | d2
    · simp only [DL.app2, e1, e2] at r
    · exact ⟨F, d1, d2, S.fh, hv.rsv q S e1, hu.rsv (.refl _) S e2, Run.lift (Γ := Γ) ⟨S, by simpa only [DL.app2, e1, e2] using r⟩⟩
theorem op_weak {f : D → D → Option Rf} {B F0 : Hp} {σ : St} {H : Hp} {Q : VK} (h : tS T B F0 (sBin f ca cb) σ H Q) : tOp (rD2 T f) (tS T B F0 (opnd ca)) (tS T B F0 (opnd cb)) σ H Q := by
  obtain ⟨F, Γ, r⟩ := h
  exact ⟨F, Γ, r.bnd.mono fun x F1 Γ1 H1 q1 S1 r1 v hv => ⟨F1, Γ1, r1.bnd.mono fun y F2 Γ2 H2 q2 S2 r2 u hu => r2.app2 hv q2 hu⟩⟩
theorem re_bin {op : Operator} {f : D → D → Option Rf} (ho : OpD T (binaryOp op) f) (ha : RE T a ca) (hb : RE T b cb) : RE T (.BinOp a op b pos) (sBin f ca cb) := fun B F0 =>
  (pe_op ho (re_opnd ha B F0) (re_opnd hb B F0)).weak fun _ _ _ h => op_weak h
theorem re_cmp {op : CmpOp} {f : D → D → Option Rf} (ho : OpD T (compareOp op) f) (ha : RE T a ca) (hb : RE T b cb) (hm : behindInMarks op b = false := by first | exact nomark _ | rfl) : RE T (.Compare a [op] [b] pos) (sBin f ca cb) := fun B F0 =>
  (pe_cmpR ho (re_opnd ha B F0) (re_opnd hb B F0) hm).weak fun _ _ _ h => op_weak h
/-- the test of a value that is a bool -/
def asB : Rf → M Bool
  | .dat (.bl b) => ret b
  | _ => fail
def sB (c : M Rf) : M Bool := bnd c asB
theorem b_weak {c : M Rf} {B F0 : Hp} {σ : St} {H : Hp} {Q : Bool → Hp → Prop} (h : tT T B F0 (sB c) σ H Q) : tS T B F0 c σ H fun x H' => ∃ k, x = .bl k ∧ Q k H' := by
  obtain ⟨F, Γ, r⟩ := h
  refine ⟨F, Γ, r.bnd.mono fun x F1 Γ1 H1 q1 S1 r1 v hv => ?_⟩
  match x, hv, r1 with
  | .dat (.bl b), hv, r1 => exact ⟨b, IsT.bl (H := H1) (.inl hv), r1.ret.2⟩
  | .dat .non, _, r1 => exact r1.2.elim
  | .dat (.int _), _, r1 => exact r1.2.elim
  | .dat (.str _), _, r1 => exact r1.2.elim
  | .dat (.ty _), _, r1 => exact r1.2.elim
  | .dat (.cls _), _, r1 => exact r1.2.elim
  | .dat (.lst _), _, r1 => exact r1.2.elim
  | .dat (.tup _), _, r1 => exact r1.2.elim
  | .dat (.dic _ _), _, r1 => exact r1.2.elim
  | .dat (.ins _ _ _), _, r1 => exact r1.2.elim
  | .dat (.exc _ _ _), _, r1 => exact r1.2.elim
  | .own _, _, r1 => exact r1.2.elim
  | .slot _, _, r1 => exact r1.2.elim
theorem rt_cmp {op : CmpOp} {f : D → D → Option Rf} (ho : OpD T (compareOp op) f) (ha : RE T a ca) (hb : RE T b cb) (hm : behindInMarks op b = false := by first | exact nomark _ | rfl) : RT T (.Compare a [op] [b] pos) (sB (sBin f ca cb)) := fun B F0 =>
  (pt_cmpR ho (re_opnd ha B F0) (re_opnd hb B F0) hm).weak fun _ _ _ h => op_weak (b_weak h)
/-- a < b < c -/
def app2S (f : D → D → Option Rf) (x y : Rf) : M Bool := bnd (app2 f x y) asB
def sChain (f g : D → D → Option Rf) (a b c : M Rf) : M Rf := bnd (opnd a) fun x => bnd (opnd b) fun y => bnd (app2 f x y) fun r => bnd (asB r) fun k =>
  if k then bnd (opnd c) fun z => app2 g y z else ret (.dat (.bl false))
theorem chain_weak {f g : D → D → Option Rf} {B F0 : Hp} {σ : St} {H : Hp} {Q : VK} (h : tS T B F0 (sChain f g ca cb cc) σ H Q) : tChain (rD2 T f) (rD2 T g) (tS T B F0 (opnd ca)) (tS T B F0 (opnd cb)) (tS T B F0 (opnd cc)) σ H Q := by
  obtain ⟨F, Γ, r⟩ := h
  refine ⟨F, Γ, r.bnd.mono fun x F1 Γ1 H1 q1 S1 r1 v hv => ⟨F1, Γ1, r1.bnd.mono fun y F2 Γ2 H2 q2 S2 r2 u hu => ?_⟩⟩
  have r3 : Run T B F0 (DL.app2 f x y) F2 Γ2 σ H2 fun r F' Γ' H' => ∀ w, IsRf T.X.K T.cm B F' Γ' σ H' w r → ∃ k, w = .bl k ∧ (if k = true then tS T B F0 (opnd cc) σ H' fun w' H4 => rD2 T g u w' H4 Q else Q (.bl false) H') := by
    refine r2.bnd.mono fun z F3 Γ3 H3 q3 S3 r4 w hw => ?_
    match z, hw, r4 with
    | .dat (.bl b), hw, r4 =>
      refine ⟨b, IsT.bl (H := H3) (.inl hw), ?_⟩
      have r5 := r4.bnd.ret.2
      cases b with
      | true =>
        rw [if_pos rfl]
        refine ⟨F3, Γ3, Run.mono (Run.bnd (by simpa using r5)) fun z' F4 Γ4 H4 q4 S4 r6 w' hw' => ?_⟩
        have hu' : IsRf T.X.K T.cm B F2 Γ2 σ H2 u y := hu
        exact r6.app2 hu' (q3.trans q4) hw'
      | false =>
        rw [if_neg (by simp)]
        rw [if_neg (by simp)] at r5
        exact r5.ret.2 _ (.bl false)
    | .dat .non, _, r1 => exact r1.bnd.2.elim
    | .dat (.int _), _, r1 => exact r1.bnd.2.elim
    | .dat (.str _), _, r1 => exact r1.bnd.2.elim
    | .dat (.ty _), _, r1 => exact r1.bnd.2.elim
    | .dat (.cls _), _, r1 => exact r1.bnd.2.elim
    | .dat (.lst _), _, r1 => exact r1.bnd.2.elim
    | .dat (.tup _), _, r1 => exact r1.bnd.2.elim
    | .dat (.dic _ _), _, r1 => exact r1.bnd.2.elim
    | .dat (.ins _ _ _), _, r1 => exact r1.bnd.2.elim
    | .dat (.exc _ _ _), _, r1 => exact r1.bnd.2.elim
    | .own _, _, r1 => exact r1.bnd.2.elim
    | .slot _, _, r1 => exact r1.bnd.2.elim
  exact r3.app2 hv q2 hu
theorem re_chain {op op' : CmpOp} {f g : D → D → Option Rf} (ho : OpD T (compareOp op) f) (ho' : OpD T (compareOp op') g) (ha : RE T a ca) (hb : RE T b cb) (hc : RE T c cc) (hm : lastMarks [op, op'] [b, c] = false := by rfl) : RE T (.Compare a [op, op'] [b, c] pos) (sChain f g ca cb cc) := fun B F0 =>
  (pe_chain ho ho' (re_opnd ha B F0) (re_opnd hb B F0) (re_opnd hc B F0) hm).weak fun _ _ _ h => chain_weak h
theorem rt_chain {op op' : CmpOp} {f g : D → D → Option Rf} (ho : OpD T (compareOp op) f) (ho' : OpD T (compareOp op') g) (ha : RE T a ca) (hb : RE T b cb) (hc : RE T c cc) (hm : lastMarks [op, op'] [b, c] = false := by rfl) : RT T (.Compare a [op, op'] [b, c] pos) (sB (sChain f g ca cb cc)) := fun B F0 =>
  (pt_chain ho ho' (re_opnd ha B F0) (re_opnd hb B F0) (re_opnd hc B F0) hm).weak fun _ _ _ h => chain_weak (b_weak h)

/-! ### one of two readings -/
def orM {α : Type} (c d : M α) : M α := fun Γ => match c Γ with
  | none => d Γ
  | r => r
theorem re_or {e : Expr} {c d : M Rf} (h : RE T e c) (g : RE T e d) : RE T e (orM c d) := fun B F0 => ⟨fun pins s σ H Q I ⟨F, Γ, S, r⟩ => by
  rcases q : c Γ with _ | p
  · exact (g B F0).run pins s σ H Q I ⟨F, Γ, S, by simpa only [orM, q] using r⟩
  · exact (h B F0).run pins s σ H Q I ⟨F, Γ, S, by simpa only [orM, q] using r⟩⟩

/-! ### tests -/
def sAndT (a b : M Bool) : M Bool := bnd a fun k => if k then b else ret false
def sOrT (a b : M Bool) : M Bool := bnd a fun k => if k then ret true else b
def sNotT (a : M Bool) : M Bool := bnd a fun k => ret !k
variable {ta tb : M Bool} {rest : List Expr}
/-- a test whatever its 'whole' is (and, or) -/
def RW (T : Tx) (e : Expr) (c : M Bool) : Prop := ∀ B F0, PW T.X e (tT T B F0 c)
theorem RW.rt (h : RW T e ta) : RT T e ta := fun B F0 => (h B F0).pt
theorem rw_and1 (h : RT T a ta) : RW T (.BoolOp .And [a] pos) ta := fun B F0 => pw_and1 (h B F0)
theorem rw_or1 (h : RT T a ta) : RW T (.BoolOp .Or [a] pos) ta := fun B F0 => pw_or1 (h B F0)
theorem rw_and (h : RT T a ta) (g : RW T (.BoolOp .And (b :: rest) pos) tb) : RW T (.BoolOp .And (a :: b :: rest) pos) (sAndT ta tb) := fun B F0 =>
  ⟨fun wh pins s σ H Q I ⟨F, Γ, r⟩ => (pw_and (h B F0) (g B F0)).run wh pins s σ H Q I ⟨F, Γ, r.bnd.mono fun k F1 Γ1 H1 q1 S1 r1 => by
    cases k with
    | true => rw [if_pos rfl]; exact ⟨F1, Γ1, by simpa using r1⟩
    | false =>
      rw [if_neg (by simp)]
      rw [if_neg (by simp)] at r1
      exact r1.ret.2⟩⟩
theorem rw_or (h : RT T a ta) (g : RW T (.BoolOp .Or (b :: rest) pos) tb) : RW T (.BoolOp .Or (a :: b :: rest) pos) (sOrT ta tb) := fun B F0 =>
  ⟨fun wh pins s σ H Q I ⟨F, Γ, r⟩ => (pw_or (h B F0) (g B F0)).run wh pins s σ H Q I ⟨F, Γ, r.bnd.mono fun k F1 Γ1 H1 q1 S1 r1 => by
    cases k with
    | false => rw [if_neg (by simp)]; exact ⟨F1, Γ1, by simpa using r1⟩
    | true =>
      rw [if_pos rfl]
      rw [if_pos rfl] at r1
      exact r1.ret.2⟩⟩
theorem rt_not (h : RT T a ta) : RT T (.UnaryOp .Not a pos) (sNotT ta) := fun B F0 => (pt_not (h B F0)).weak fun σ H Q ⟨F, Γ, r⟩ => ⟨F, Γ, r.bnd.mono fun k F1 Γ1 H1 q1 S1 r1 => r1.ret.2⟩
/-- an expression whose value is a bool -/
theorem rt_val (h : RE T e ca) (he : ∀ whole, isTrue e T.X.env whole = (do let v ← whole; standAt e.pos; holding [v] (truthy v)) := by intro _; rfl) : RT T e (sB ca) := fun B F0 =>
  (pt_val (h B F0) he).weak fun σ H Q q => b_weak q

/-! ### and, or, not, a if t else b as values -/
def vB (c : M Bool) : M Rf := bnd c fun k => ret (.dat (.bl k))
def sAndV (a b : M Rf) : M Rf := bnd (sB a) fun k => if k then b else ret (.dat (.bl false))
def sOrV (a b : M Rf) : M Rf := bnd (sB a) fun k => if k then ret (.dat (.bl true)) else b
def sNotV (a : M Rf) : M Rf := bnd (sB a) fun k => ret (.dat (.bl !k))
def sIfE (t : M Bool) (a b : M Rf) : M Rf := bnd t fun k => if k then a else b
theorem re_one {op : BoolOp} (h : RE T a ca) : RE T (.BoolOp op [a] pos) ca := fun B F0 => pe_one (h B F0)
theorem b_weak2 {c : M Rf} {k : Bool → M Rf} {B F0 : Hp} {σ : St} {H : Hp} {Q : VK} (h : tS T B F0 (bnd (sB c) k) σ H Q) : tS T B F0 c σ H fun x H' => ∃ b, x = .bl b ∧ tS T B F0 (k b) σ H' Q := by
  obtain ⟨F, Γ, r⟩ := h
  exact b_weak ⟨F, Γ, r.bnd.mono fun b F1 Γ1 H1 q1 S1 r1 => ⟨F1, Γ1, r1⟩⟩
theorem ret_weak {B F0 : Hp} {σ : St} {H : Hp} {Q : VK} {d : D} {v : V} (i : ∀ F, T.Is F v d) (h : tS T B F0 (ret (.dat d)) σ H Q) : Q v H := by
  obtain ⟨F, Γ, r⟩ := h
  exact r.ret.2 v (i F)
theorem re_and (h : RE T a ca) (g : RE T (.BoolOp .And (b :: rest) pos) cb) : RE T (.BoolOp .And (a :: b :: rest) pos) (sAndV ca cb) := fun B F0 =>
  (pe_and (h B F0) (g B F0)).weak fun σ H Q q => by
    have q2 := b_weak2 q
    obtain ⟨F, Γ, r⟩ := q2
    refine ⟨F, Γ, r.mono fun x F1 Γ1 H1 q1 S1 r1 v hv => ?_⟩
    obtain ⟨k, e, r2⟩ := r1 v hv
    refine ⟨k, e, ?_⟩
    cases k with
    | true => simpa using r2
    | false => rw [if_neg (by simp)]; exact ret_weak (fun _ => .bl false) (by simpa using r2)
theorem re_orV (h : RE T a ca) (g : RE T (.BoolOp .Or (b :: rest) pos) cb) : RE T (.BoolOp .Or (a :: b :: rest) pos) (sOrV ca cb) := fun B F0 =>
  (pe_or (h B F0) (g B F0)).weak fun σ H Q q => by
    have q2 := b_weak2 q
    obtain ⟨F, Γ, r⟩ := q2
    refine ⟨F, Γ, r.mono fun x F1 Γ1 H1 q1 S1 r1 v hv => ?_⟩
    obtain ⟨k, e, r2⟩ := r1 v hv
    refine ⟨k, e, ?_⟩
    cases k with
    | true => rw [if_pos rfl]; exact ret_weak (fun _ => .bl true) (by simpa using r2)
    | false => simpa using r2
theorem re_not (h : RE T a ca) : RE T (.UnaryOp .Not a pos) (sNotV ca) := fun B F0 =>
  (pe_not (h B F0)).weak fun σ H Q q => by
    have q2 := b_weak2 q
    obtain ⟨F, Γ, r⟩ := q2
    refine ⟨F, Γ, r.mono fun x F1 Γ1 H1 q1 S1 r1 v hv => ?_⟩
    obtain ⟨k, e, r2⟩ := r1 v hv
    exact ⟨k, e, ret_weak (fun _ => .bl _) r2⟩
theorem re_ifE (h : RT T c ta) (ha : RE T a ca) (hb : RE T b cb) : RE T (.IfExp c a b pos) (sIfE ta ca cb) := fun B F0 =>
  (pe_ifExp (h B F0) (ha B F0) (hb B F0)).weak fun σ H Q ⟨F, Γ, r⟩ => ⟨F, Γ, r.bnd.mono fun k F1 Γ1 H1 q1 S1 r1 => by
    cases k with
    | true => rw [if_pos rfl]; exact ⟨F1, Γ1, by simpa using r1⟩
    | false => rw [if_neg (by simp)]; exact ⟨F1, Γ1, by simpa using r1⟩⟩
/-! ### is None -/
def isN : Rf → Bool
  | .dat .non => true
  | _ => false
def sIsN (c : M Rf) : M Rf := bnd c fun r => ret (.dat (.bl (isN r)))
def sNotN (c : M Rf) : M Rf := bnd c fun r => ret (.dat (.bl !isN r))
theorem isN_iff {B F : Hp} {Γ : List Sl} {σ : St} {H : Hp} {v : V} {r : Rf} (S : T.Sat B B F Γ σ H ∨ ∃ F0, T.Sat B F0 F Γ σ H) (h : IsRf T.X.K T.cm B F Γ σ H v r) : decide (v = .non) = isN r := by
  have key : ∀ d, T.Is F v d → d ≠ .non → v ≠ .non := fun d i hd hv => by
    subst hv
    cases i with
    | non => exact hd rfl
  match r, h with
  | .dat .non, h => rw [IsT.non (H := H) (.inl h)]; rfl
  | .dat (.bl _), h => exact decide_eq_false (key _ h (by simp))
  | .dat (.int _), h => exact decide_eq_false (key _ h (by simp))
  | .dat (.str _), h => exact decide_eq_false (key _ h (by simp))
  | .dat (.ty _), h => exact decide_eq_false (key _ h (by simp))
  | .dat (.cls _), h => exact decide_eq_false (key _ h (by simp))
  | .dat (.lst _), h => exact decide_eq_false (key _ h (by simp))
  | .dat (.tup _), h => exact decide_eq_false (key _ h (by simp))
  | .dat (.dic _ _), h => exact decide_eq_false (key _ h (by simp))
  | .dat (.ins _ _ _), h => exact decide_eq_false (key _ h (by simp))
  | .dat (.exc _ _ _), h => exact decide_eq_false (key _ h (by simp))
  | .own d, h => obtain ⟨a, ho, rfl, _⟩ := h; rfl
  | .slot i, h =>
    obtain ⟨h1, d, h2⟩ := h
    have : ∃ a, v = .ref a := by
      rcases S with S | ⟨F0, S⟩
      · obtain ⟨a, ho, g1, _⟩ := S.ow i d h2
        rw [g1] at h1; injection h1 with h1; injection h1 with h1; exact ⟨a, h1.symm⟩
      · obtain ⟨a, ho, g1, _⟩ := S.ow i d h2
        rw [g1] at h1; injection h1 with h1; injection h1 with h1; exact ⟨a, h1.symm⟩
    obtain ⟨a, rfl⟩ := this
    rfl
theorem pc_is_weak {B F0 : Hp} {σ : St} {H : Hp} {Q : VK} {ca : M Rf} {g : Bool → Bool} (h : tS T B F0 (bnd ca fun r => ret (.dat (.bl (g (isN r))))) σ H Q) : tS T B F0 ca σ H fun x H1 => Q (.bl (g (decide (x = .non)))) H1 := by
  obtain ⟨F, Γ, r⟩ := h
  refine ⟨F, Γ, r.bnd.mono fun x F1 Γ1 H1 q1 S1 r1 v hv => ?_⟩
  show Q (.bl (g (decide (v = .non)))) H1
  rw [isN_iff (.inr ⟨F0, S1⟩) hv]
  exact r1.ret.2 _ (.bl _)
theorem re_isN {j : Nat} {pos' : Pos} (ha : RE T a ca) : RE T (.Compare a [.Is] [.Constant .none j pos'] pos) (sIsN ca) := fun B F0 => (pe_cmp (pc_isN (ha B F0)) rfl).weak fun σ H Q h => pc_is_weak (g := id) h
theorem re_notN {j : Nat} {pos' : Pos} (ha : RE T a ca) : RE T (.Compare a [.IsNot] [.Constant .none j pos'] pos) (sNotN ca) := fun B F0 => (pe_cmp (pc_notN (ha B F0)) rfl).weak fun σ H Q h => pc_is_weak (g := not) h
def sIsT (c : M Rf) : M Bool := bnd c fun r => ret (isN r)
def sNotNT (c : M Rf) : M Bool := bnd c fun r => ret !isN r
theorem rt_isN {j : Nat} {pos' : Pos} (ha : RE T a ca) : RT T (.Compare a [.Is] [.Constant .none j pos'] pos) (sIsT ca) := fun B F0 => (pt_cmp (pc_isN (ha B F0)) rfl).weak fun σ H Q ⟨F, Γ, r⟩ =>
  ⟨F, Γ, r.bnd.mono fun x F1 Γ1 H1 q1 S1 r1 v hv => ⟨_, rfl, by rw [isN_iff (.inr ⟨F0, S1⟩) hv]; exact r1.ret.2⟩⟩
theorem rt_notN {j : Nat} {pos' : Pos} (ha : RE T a ca) : RT T (.Compare a [.IsNot] [.Constant .none j pos'] pos) (sNotNT ca) := fun B F0 => (pt_cmp (pc_notN (ha B F0)) rfl).weak fun σ H Q ⟨F, Γ, r⟩ =>
  ⟨F, Γ, r.bnd.mono fun x F1 Γ1 H1 q1 S1 r1 v hv => ⟨_, rfl, by rw [isN_iff (.inr ⟨F0, S1⟩) hv]; exact r1.ret.2⟩⟩
end
end DL

/-! DL3: arguments, displays, calls of built-ins, arithmetic, comparisons of data. -/
namespace DL
open PySem L2

abbrev big : Nat := 16777216
theorem big_eq : sizeLine = big := sizeLine_eq
theorem le_big {n : Nat} (h : n ≤ big) : n ≤ sizeLine := by rw [big_eq]; exact h
theorem lt_big {n : Nat} (h : n < big) : n < sizeLine := by rw [big_eq]; exact h

/-! ### arguments that are kept -/
def sNil : M (List D) := ret []
def sCons (a : M D) (r : M (List D)) : M (List D) := bnd a fun d => bnd r fun ds => ret (d :: ds)
section
variable {T : Tx} {e : Expr} {es : List Expr} {ca : M Rf} {cs : M (List D)} {pos : Pos}
theorem ra_nil : RA T [] sNil := fun B F0 => pa_nil.weak fun σ H Q ⟨F, Γ, r⟩ => r.ret.2 [] .nil
theorem ra_cons (ha : RE T e ca) (hr : RA T es cs) (hs : starEach (e :: es) T.X.env = (false, eval e T.X.env) :: starEach es T.X.env := by rfl) : RA T (e :: es) (sCons (cap ca) cs) := fun B F0 =>
  (pa_cons (rd_of ha B F0) (hr B F0) hs).weak fun σ H Q ⟨F, Γ, r⟩ => ⟨F, Γ, r.bnd.mono fun d F1 Γ1 H1 q1 S1 r1 v hv => ⟨F1, Γ1, r1.bnd.mono fun ds F2 Γ2 H2 q2 S2 r2 vs hvs =>
    r2.ret.2 _ (.cons (hv.mono q2 _) hvs)⟩⟩

/-! ### displays -/
def mkTup (ds : List D) : Option Rf := if ds.length ≤ big then some (.dat (.tup ds)) else none
def mkLst (ds : List D) : Option Rf := if ds.length ≤ big then some (.own (.lst ds)) else none
def sTup (c : M (List D)) : M Rf := bnd c fun ds => lift (mkTup ds)
def sLst (c : M (List D)) : M Rf := bnd c fun ds => lift (mkLst ds)
/-- a new tuple, a new list of data -/
theorem Res.newTup {F H : Hp} {Q : VK} {ds : List D} {vs : List V} (h : Res T F H Q (some (.dat (.tup ds)))) (s : Same F H) (i : IsAll T.X.K T.cm F vs ds) : ∀ p, H p = none → Q (.ref p) (upd H p (.tup vs)) := fun p n =>
  h _ _ _ (.new s n) (.ktup upd_same (i.mono (.up (s.free n)) _))
theorem Res.newLst {F H : Hp} {Q : VK} {ds : List D} {vs : List V} (h : Res T F H Q (some (.own (.lst ds)))) (s : Same F H) (i : IsAll T.X.K T.cm F vs ds) : ∀ p, H p = none → Q (.ref p) (upd H p (.lst vs)) := fun p n =>
  h _ _ _ _ (.newOwn s n) n (s.free n) upd_same (.lst i)
theorem re_tup {x1} (h : RA T es cs) : RE T (.Tuple es x1 pos) (sTup cs) := fun B F0 => (pe_tup (h B F0)).weak fun σ H Q ⟨F, Γ, r⟩ => ⟨F, Γ, r.bnd.mono fun ds F1 Γ1 H1 q1 S1 r1 vs hvs => by
  have r2 := r1.lift
  unfold mkTup at r2
  split at r2
  · rename_i hl
    exact ⟨by rw [hvs.length]; exact le_big hl, r2.newTup S1.fh hvs⟩
  · exact r2.elim⟩
theorem re_lst (h : RA T es cs) : RE T (.List es pos) (sLst cs) := fun B F0 => (pe_lst (h B F0)).weak fun σ H Q ⟨F, Γ, r⟩ => ⟨F, Γ, r.bnd.mono fun ds F1 Γ1 H1 q1 S1 r1 vs hvs => by
  have r2 := r1.lift
  unfold mkLst at r2
  split at r2
  · rename_i hl
    exact ⟨by rw [hvs.length]; exact le_big hl, r2.newLst S1.fh hvs⟩
  · exact r2.elim⟩
end

/-! ### arguments that are only looked at -/
def IsOp (K : PySem.W.Frag) (cm : Nat → Addr) (F : Hp) (σ : St) (v : V) : Rf → Prop
  | .dat d => Is K cm F v d
  | .own _ => False
  | .slot i => σ[i]? = some (some v)
def IsOps (K : PySem.W.Frag) (cm : Nat → Addr) (F : Hp) (σ : St) : List V → List Rf → Prop
  | [], [] => True
  | v :: vs, r :: rs => IsOp K cm F σ v r ∧ IsOps K cm F σ vs rs
  | _, _ => False
theorem IsOp.mono {K : PySem.W.Frag} {cm : Nat → Addr} {F F' : Hp} {σ : St} {v : V} {r : Rf} (q : Same F F') (h : IsOp K cm F σ v r) : IsOp K cm F' σ v r := by
  cases r with
  | dat d => exact Is.mono q _ h
  | own d => exact h
  | slot i => exact h
theorem IsOps.mono {K : PySem.W.Frag} {cm : Nat → Addr} {F F' : Hp} {σ : St} (q : Same F F') : ∀ {vs : List V} {rs : List Rf}, IsOps K cm F σ vs rs → IsOps K cm F' σ vs rs
  | [], [], _ => trivial
  | _ :: _, _ :: _, h => ⟨h.1.mono q, IsOps.mono q h.2⟩
  | [], _ :: _, h => h.elim
  | _ :: _, [], h => h.elim
def AllT (K : PySem.W.Frag) (cm : Nat → Addr) (F H : Hp) : List V → List D → Prop
  | [], [] => True
  | v :: vs, d :: ds => IsT K cm F H v d ∧ AllT K cm F H vs ds
  | _, _ => False
def rsvs (Γ : List Sl) : List Rf → Option (List D)
  | [] => some []
  | r :: rs => match rsv Γ r, rsvs Γ rs with
    | some d, some ds => some (d :: ds)
    | _, _ => none
def oNil : M (List Rf) := ret []
def oCons (a : M Rf) (r : M (List Rf)) : M (List Rf) := bnd (opnd a) fun d => bnd r fun ds => ret (d :: ds)
def appN (f : List D → Option Rf) (rs : List Rf) : M Rf := fun Γ => match rsvs Γ rs with
  | some ds => lift (f ds) Γ
  | none => none
def sCB (f : List D → Option Rf) (c : M (List Rf)) : M Rf := bnd c (appN f)
def tAO (T : Tx) (B F0 : Hp) (c : M (List Rf)) : TA := fun σ H Q => ∃ F Γ, Run T B F0 c F Γ σ H fun rs F' Γ' H' => ∀ vs, IsOps T.X.K T.cm F' σ vs rs → Q vs H'
def RAO (T : Tx) (es : List Expr) (c : M (List Rf)) : Prop := ∀ B F0, PA T.X es (tAO T B F0 c)
def rDN (T : Tx) (f : List D → Option Rf) : List V → Hp → VK → Prop := fun vs H Q => ∃ F ds, Same F H ∧ AllT T.X.K T.cm F H vs ds ∧ Res T F H Q (f ds)
def CallD (T : Tx) (g : Value) (f : List D → Option Rf) : Prop := CallR T.X g (rDN T f)
section
variable {T : Tx} {e : Expr} {es : List Expr} {ca : M Rf} {cs : M (List Rf)} {pos p : Pos} {x : Str} {f : List D → Option Rf}
theorem IsRf.op {B F : Hp} {Γ : List Sl} {σ : St} {H : Hp} {v : V} {r : Rf} (h : IsRf T.X.K T.cm B F Γ σ H v (opR r)) : IsOp T.X.K T.cm F σ v (opR r) := by
  cases r with
  | dat d => exact h
  | own d => exact h
  | slot i => exact h.1
theorem IsOp.rsv {B F0 F : Hp} {Γ : List Sl} {σ : St} {H : Hp} {v : V} {r : Rf} {d : D} (S : T.Sat B F0 F Γ σ H) (h : IsOp T.X.K T.cm F σ v r) (e : DL.rsv Γ r = some d) : IsT T.X.K T.cm F H v d := by
  cases r with
  | dat d' =>
    have e' : d' = d := Option.some.inj e
    subst e'
    exact .inl h
  | own d' => cases e
  | slot i =>
    have h1 : σ[i]? = some (some v) := h
    unfold DL.rsv at e
    simp only at e
    split at e
    · rename_i d' hd
      have e' : d' = d := Option.some.inj e
      subst e'
      obtain ⟨a, ho, g1, _, _, g4, g5⟩ := S.ow i _ hd
      rw [g1] at h1; injection h1 with h1; injection h1 with h1; subst h1
      exact .inr ⟨a, ho, rfl, g4, g5⟩
    · rename_i d' hd
      have e' : d' = d := Option.some.inj e
      subst e'
      obtain ⟨w, g1, g2⟩ := S.dt i _ hd
      rw [g1] at h1; injection h1 with h1; injection h1 with h1; subst h1
      exact .inl g2
    · cases e
theorem IsOps.rsvs {B F0 F : Hp} {Γ : List Sl} {σ : St} {H : Hp} (S : T.Sat B F0 F Γ σ H) : ∀ {vs : List V} {rs : List Rf} {ds : List D}, IsOps T.X.K T.cm F σ vs rs → DL.rsvs Γ rs = some ds → AllT T.X.K T.cm F H vs ds
  | [], [], ds, _, e => by
    simp only [DL.rsvs, Option.some.injEq] at e; subst e; exact trivial
  | v :: vs, r :: rs, ds, h, e => by
    unfold DL.rsvs at e
    split at e
    · rename_i d ds' e1 e2
      simp only [Option.some.injEq] at e; subst e
      exact ⟨h.1.rsv S e1, IsOps.rsvs S h.2 e2⟩
    · cases e
  | [], _ :: _, _, h, _ => h.elim
  | _ :: _, [], _, h, _ => h.elim
theorem ro_nil : RAO T [] oNil := fun B F0 => pa_nil.weak fun σ H Q ⟨F, Γ, r⟩ => r.ret.2 [] trivial
theorem ro_cons (ha : RE T e ca) (hr : RAO T es cs) (hs : starEach (e :: es) T.X.env = (false, eval e T.X.env) :: starEach es T.X.env := by rfl) : RAO T (e :: es) (oCons ca cs) := fun B F0 =>
  (pa_cons (re_opnd ha B F0) (hr B F0) hs).weak fun σ H Q ⟨F, Γ, r⟩ => ⟨F, Γ, by
    have r' := r.bnd
    refine ⟨r'.1, ?_⟩
    have key : Run T B F0 (opnd ca) F Γ σ H fun a F' Γ' H' => (∃ b, a = opR b) ∧ Run T B F0 (bnd cs fun ds => ret (a :: ds)) F' Γ' σ H' fun rs F' Γ' H' => ∀ vs, IsOps T.X.K T.cm F' σ vs rs → Q vs H' := by
      unfold oCons opnd at r
      unfold opnd
      rw [bnd_assoc] at r
      have r2 := r.bnd
      refine ⟨r.1, ?_⟩
      rcases e1 : ca Γ with _ | ⟨x | a, Γ'⟩
      · have r3 := r2.2; rw [e1] at r3; exact r3.elim
      · have r3 := r2.2; rw [e1] at r3; rw [bnd_err e1]; exact r3
      · have r3 := r2.2
        rw [e1] at r3
        rw [bnd_ok e1]
        exact fun F' H' q S' => ⟨⟨a, rfl⟩, (r3 F' H' q S').bnd.ret.2⟩
    exact (key.mono fun a F1 Γ1 H1 q1 S1 r1 v hv => by
      obtain ⟨⟨b, rfl⟩, r1⟩ := r1
      exact ⟨F1, Γ1, r1.bnd.mono fun ds F2 Γ2 H2 q2 S2 r2 vs hvs => r2.ret.2 _ ⟨hv.op.mono q2, hvs⟩⟩).2⟩
theorem cb_weak {B F0 : Hp} {σ : St} {H : Hp} {Q : VK} (h : tS T B F0 (sCB f cs) σ H Q) : tCB (rDN T f) (tAO T B F0 cs) σ H Q := by
  obtain ⟨F, Γ, r⟩ := h
  refine ⟨F, Γ, r.bnd.mono fun rs F1 Γ1 H1 q1 S1 r1 vs hvs => ?_⟩
  obtain ⟨S, r1⟩ := r1
  rcases e : rsvs Γ1 rs with _ | ds
  · simp only [appN, e] at r1
  · exact ⟨F1, ds, S.fh, hvs.rsvs S e, Run.lift (Γ := Γ1) ⟨S, by simpa only [appN, e] using r1⟩⟩
/-- f(e, ..), f a built-in function -/
theorem re_callB {id : String} (hc : CallD T (.builtin id) f) (hm : T.X.mg x = none) (ha : RAO T (e :: es) cs) (hg : Gl T.X x := by rfl) (hv : bootBuiltins x = some (.builtin id) := by decide +kernel) (hn : x ≠ "__name__" := by decide) (hdb : (x == ("__debug__" : Str)) = false := by decide)
    (he : starEach (e :: es) T.X.env = (false, eval e T.X.env) :: starEach es T.X.env := by rfl) (hpl : (backTo pos (starEach es T.X.env)).any (·.1) = false := by rfl) : RE T (.Call (.Name x p) (e :: es) [] pos) (sCB f cs) := fun B F0 =>
  (pe_callB hc hg hm hv (ha B F0) hn hdb he hpl).weak fun _ _ _ h => cb_weak h
/-- T(e, ..), T a built-in type -/
theorem re_callTy {n : String} (hc : CallD T (.type n) f) (hm : T.X.mg x = none) (ha : RAO T (e :: es) cs) (hg : Gl T.X x := by rfl) (hv : bootBuiltins x = some (.type n) := by decide +kernel) (hn : x ≠ "__name__" := by decide) (hdb : (x == ("__debug__" : Str)) = false := by decide)
    (he : starEach (e :: es) T.X.env = (false, eval e T.X.env) :: starEach es T.X.env := by rfl) (hpl : (backTo pos (starEach es T.X.env)).any (·.1) = false := by rfl) : RE T (.Call (.Name x p) (e :: es) [] pos) (sCB f cs) := fun B F0 =>
  (pe_callTy hc hg hm hv (ha B F0) hn hdb he hpl).weak fun _ _ _ h => cb_weak h
end

/-! ### arithmetic -/
section
variable {T : Tx}
theorem _root_.L2.OpR.imp {X : Cx} {g : Value → Value → Sem Value} {r r' : R2} (h : OpR X g r) (i : ∀ x y H Q, r' x y H Q → r x y H Q) : OpR X g r' := fun pins s σ H x y v u Q I rx ry q => h pins s σ H x y v u Q I rx ry (i _ _ _ _ q)
theorem rd_lst {X : Cx} {pins : List (Addr × Obj)} {σ : St} {H : Hp} {s : Shared} {l : Addr} {xs : List V} (I : Inv X pins σ H s) (h : SqL X.K H l xs) :
    xs.length ≤ sizeLine ∧ ∃ (its : List Value) (n : Nat) (dd : Option Addr) (sl : Array (Option Value)), Vals xs its ∧ xs.length = its.length ∧ s.heap.get? l = some { cls := .type "list", dict := dd, data := .seq its.toArray n, slots := sl } := by
  obtain ⟨its, r, ⟨o, n, e, c, d, hd⟩, z⟩ := I.list h
  obtain ⟨oc, od, dt, sl⟩ := o
  simp only at c d hd
  subst c hd
  exact ⟨z, its, n, _, sl, r, r.length, e⟩
/-- lists that may be known ones -/
def rCatR (K : PySem.W.Frag) : R2 := fun x y H Q => ∃ l b xs zs, x = .ref l ∧ y = .ref b ∧ SqL K H l xs ∧ SqL K H b zs ∧ xs.length + zs.length ≤ sizeLine ∧ ∀ p, H p = none → Q (.ref p) (upd H p (.lst (xs ++ zs)))
theorem op_catR {X : Cx} : OpR X (binaryOp .Add) (rCatR X.K) := by
  intro pins s σ H x y v u Q I rx ry h
  obtain ⟨l, b, xs, zs, rfl, rfl, hH, hB, hz, q⟩ := h
  cases rx
  cases ry
  obtain ⟨z, its, n, dd, sl, r, hl, e⟩ := rd_lst I hH
  obtain ⟨z2, its2, n2, dd2, sl2, r2, hl2, e2⟩ := rd_lst I hB
  refine PySem.concat_meets ⟨_, e, rfl⟩ ⟨_, e2, rfl⟩ PySem.noFill_list_add PySem.seq_list_add PySem.F.slot_list_add PySem.F.entry_list_add (PySem.F.args_list_add_2 _ _) (PyProof.Rows.list_addW l b its.toArray its2.toArray n n2 dd dd2 sl sl2 (by rw [List.size_toArray, List.size_toArray]; omega)) ⟨e, e2, ?_⟩
  have ea : its.toArray ++ its2.toArray = (its ++ its2).toArray := by simp
  rw [ea]
  exact ⟨.ref _, _, I.lnew (t' := s.toks) (r.append r2) (by rw [List.length_append]; omega), rfl, q _ I.fresh⟩
def addD : D → D → Option Rf
  | .int i, .int j => some (.dat (.int (i + j)))
  | .str x, .str y => if x.length + y.length ≤ big then some (.dat (.str (x ++ y))) else none
  | .lst xs, .lst ys => if xs.length + ys.length ≤ big then some (.own (.lst (xs ++ ys))) else none
  | .tup xs, .tup ys => if xs.length + ys.length ≤ big then some (.dat (.tup (xs ++ ys))) else none
  | _, _ => none
theorem op_addD : OpD T (binaryOp .Add) addD := by
  intro pins s σ H x y v u Q I rx ry h
  obtain ⟨F, d1, d2, fh, i1, i2, h⟩ := h
  match d1, d2, i1, i2, h with
  | .int i, .int j, i1, i2, h => exact op_add pins s σ H x y v u Q I rx ry ⟨i, j, i1.int, i2.int, h.val fh (.int _)⟩
  | .str a, .str b, i1, i2, h =>
    simp only [addD] at h
    split at h
    · rename_i hl
      exact op_add_str pins s σ H x y v u Q I rx ry ⟨a, b, i1.str, i2.str, le_big hl, h.val fh (.str _)⟩
    · exact h.elim
  | .lst xs, .lst ys, i1, i2, h =>
    simp only [addD] at h
    split at h
    · rename_i hl
      obtain ⟨a, vs, rfl, g1, g2⟩ := i1.lst fh
      obtain ⟨b, ws, rfl, g3, g4⟩ := i2.lst fh
      exact op_catR pins s σ H _ _ v u Q I rx ry ⟨a, b, vs, ws, rfl, rfl, g1, g3, by rw [g2.length, g4.length]; exact le_big hl, h.newLst fh (g2.append g4)⟩
    · exact h.elim
  | .tup xs, .tup ys, i1, i2, h =>
    simp only [addD] at h
    split at h
    · rename_i hl
      obtain ⟨a, vs, rfl, g1, g2⟩ := i1.tup fh
      obtain ⟨b, ws, rfl, g3, g4⟩ := i2.tup fh
      have l1 := g2.length
      have l2 := g4.length
      refine op_catA pins s σ H _ _ v u Q I rx ry ⟨a, b, vs, ws, rfl, rfl, g1, g3, by rw [l1, l2]; exact le_big hl, fun e => ?_, fun _ e => ?_, fun _ _ => h.newTup fh (g2.append g4)⟩
      · subst e
        have : xs = [] := List.length_eq_zero_iff.mp l1.symm
        subst this
        exact h _ _ _ (.refl fh) (by simpa using i2.elim id fun ⟨a', ho, e1, e2, e3⟩ => by cases e3)
      · subst e
        have : ys = [] := List.length_eq_zero_iff.mp l2.symm
        subst this
        exact h _ _ _ (.refl fh) (by simpa using i1.elim id fun ⟨a', ho, e1, e2, e3⟩ => by cases e3)
    · exact h.elim
def subD : D → D → Option Rf
  | .int i, .int j => some (.dat (.int (i - j)))
  | _, _ => none
theorem op_subD : OpD T (binaryOp .Sub) subD := op_sub.imp fun x y H Q ⟨F, d1, d2, fh, i1, i2, h⟩ => by
  match d1, d2, i1, i2, h with
  | .int i, .int j, i1, i2, h => exact ⟨i, j, i1.int, i2.int, h.val fh (.int _)⟩
abbrev sm (i : Int) : Bool := decide (-(2 ^ 64) < i) && decide (i < 2 ^ 64)
def mulD : D → D → Option Rf
  | .int i, .int j => if sm i || sm j then some (.dat (.int (i * j))) else none
  | _, _ => none
theorem op_mulD : OpD T (binaryOp .Mult) mulD := op_mul.imp fun x y H Q ⟨F, d1, d2, fh, i1, i2, h⟩ => by
  match d1, d2, i1, i2, h with
  | .int i, .int j, i1, i2, h =>
    simp only [mulD] at h
    split at h
    · rename_i hl
      refine ⟨i, j, i1.int, i2.int, ?_, h.val fh (.int _)⟩
      simp only [sm, Bool.or_eq_true, Bool.and_eq_true, decide_eq_true_eq] at hl
      exact hl
    · exact h.elim
/-- by a positive divisor -/
def modD : D → D → Option Rf
  | .int i, .int j => if 0 < j then some (.dat (.int (i % j))) else none
  | _, _ => none
theorem op_modD : OpD T (binaryOp .Mod) modD := op_mod.imp fun x y H Q ⟨F, d1, d2, fh, i1, i2, h⟩ => by
  match d1, d2, i1, i2, h with
  | .int i, .int j, i1, i2, h =>
    simp only [modD] at h
    split at h
    · rename_i hl
      exact ⟨i, j, i1.int, i2.int, hl, h.val fh (.int _)⟩
    · exact h.elim
/-- by a positive divisor below 2 ^ 64 -/
def divD : D → D → Option Rf
  | .int i, .int j => if 0 < j ∧ j < 18446744073709551616 then some (.dat (.int (i / j))) else none
  | _, _ => none
theorem op_divD : OpD T (binaryOp .FloorDiv) divD := op_fdivW.imp fun x y H Q ⟨F, d1, d2, fh, i1, i2, h⟩ => by
  match d1, d2, i1, i2, h with
  | .int i, .int j, i1, i2, h =>
    simp only [divD] at h
    split at h
    · rename_i hl
      exact ⟨i, j, i1.int, i2.int, wide_div (b := 64) hl.1 (by omega) (by decide) (by decide), h.val fh (.int _)⟩
    · exact h.elim
def powD : D → D → Option Rf
  | .int i, .int j => if 0 ≤ j ∧ j ≤ 1000000 ∧ i.natAbs < 18446744073709551616 then some (.dat (.int (i ^ j.toNat))) else none
  | _, _ => none
theorem op_powD : OpD T (binaryOp .Pow) powD := op_pow.imp fun x y H Q ⟨F, d1, d2, fh, i1, i2, h⟩ => by
  match d1, d2, i1, i2, h with
  | .int i, .int j, i1, i2, h =>
    simp only [powD] at h
    split at h
    · rename_i hl
      exact ⟨i, j, i1.int, i2.int, hl, h.val fh (.int _)⟩
    · exact h.elim
def andD : D → D → Option Rf
  | .int i, .int j => some (.dat (.int (Builtin.bitAnd i j)))
  | _, _ => none
theorem op_andD : OpD T (binaryOp .BitAnd) andD := op_and.imp fun x y H Q ⟨F, d1, d2, fh, i1, i2, h⟩ => by
  match d1, d2, i1, i2, h with
  | .int i, .int j, i1, i2, h => exact ⟨i, j, i1.int, i2.int, h.val fh (.int _)⟩
def xorD : D → D → Option Rf
  | .int i, .int j => some (.dat (.int (Builtin.bitXor i j)))
  | _, _ => none
theorem op_xorD : OpD T (binaryOp .BitXor) xorD := op_xor.imp fun x y H Q ⟨F, d1, d2, fh, i1, i2, h⟩ => by
  match d1, d2, i1, i2, h with
  | .int i, .int j, i1, i2, h => exact ⟨i, j, i1.int, i2.int, h.val fh (.int _)⟩
def shrD : D → D → Option Rf
  | .int i, .int j => if 0 ≤ j then some (.dat (.int (i / 2 ^ j.toNat))) else none
  | _, _ => none
theorem op_shrD : OpD T (binaryOp .RShift) shrD := op_shr.imp fun x y H Q ⟨F, d1, d2, fh, i1, i2, h⟩ => by
  match d1, d2, i1, i2, h with
  | .int i, .int j, i1, i2, h =>
    simp only [shrD] at h
    split at h
    · rename_i hl
      exact ⟨i, j, i1.int, i2.int, hl, h.val fh (.int _)⟩
    · exact h.elim
def shlD : D → D → Option Rf
  | .int i, .int j => if 0 ≤ j ∧ j ≤ 1000000 ∧ i.natAbs < 18446744073709551616 then some (.dat (.int (i * 2 ^ j.toNat))) else none
  | _, _ => none
theorem op_shlD : OpD T (binaryOp .LShift) shlD := op_shl.imp fun x y H Q ⟨F, d1, d2, fh, i1, i2, h⟩ => by
  match d1, d2, i1, i2, h with
  | .int i, .int j, i1, i2, h =>
    simp only [shlD] at h
    split at h
    · rename_i hl
      exact ⟨i, j, i1.int, i2.int, hl, h.val fh (.int _)⟩
    · exact h.elim
/-- -a -/
def sNeg (c : M Rf) : M Rf := bnd (opnd c) fun r => match r with
  | .dat (.int i) => ret (.dat (.int (-i)))
  | _ => fail
theorem re_neg {e : Expr} {c : M Rf} {pos : Pos} (h : RE T e c) : RE T (.UnaryOp .USub e pos) (sNeg c) := fun B F0 => (pe_un un_neg (re_opnd h B F0)).weak fun σ H Q ⟨F, Γ, r⟩ => ⟨F, Γ, r.bnd.mono fun x F1 Γ1 H1 q1 S1 r1 v hv => by
  split at r1
  · exact ⟨_, IsT.int (H := H1) (.inl hv), r1.ret.2 _ (.int _)⟩
  · exact r1.2.elim⟩

/-! ### comparisons -/
def eqD (d e : D) : Option Rf := if okD 60 d && okD 60 e then some (.dat (.bl (eqF 60 d e))) else none
def neD (d e : D) : Option Rf := if okD 60 d && okD 60 e then some (.dat (.bl (!eqF 60 d e))) else none
theorem op_eqDD {k : Nat} (hr : Room k T.X.A) : OpD T (compareOp .Eq) eqD := by
  intro pins s σ H x y v u Q I rx ry h
  obtain ⟨F, d1, d2, fh, i1, i2, h⟩ := h
  unfold eqD at h
  split at h
  · rename_i ho
    simp only [Bool.and_eq_true] at ho
    obtain ⟨as, r1⟩ := Dp.reads I _ x v (is_dp fh 60 d1 ho.1 i1) rx
    obtain ⟨bs, r2⟩ := Dp.reads I _ y u (is_dp fh 60 d2 ho.2 i2) ry
    have p1 := py_plain 60 d1 ho.1
    have p2 := py_plain 60 d2 ho.2
    exact SeqAt.eq_plain r1 r2 p1.1 p2.1 (by have := hr.units; have : min (py d1).depth (py d2).depth ≤ (py d1).depth := Nat.min_le_left _ _; omega)
      ⟨.bl _, H, I, rfl, by rw [eqF_py 60 d1 d2 ho.1 ho.2]; exact h.val fh (.bl _)⟩
  · exact h.elim
theorem op_neDD {k : Nat} (hr : Room k T.X.A) : OpD T (compareOp .NotEq) neD := by
  intro pins s σ H x y v u Q I rx ry h
  obtain ⟨F, d1, d2, fh, i1, i2, h⟩ := h
  unfold neD at h
  split at h
  · rename_i ho
    simp only [Bool.and_eq_true] at ho
    obtain ⟨as, r1⟩ := Dp.reads I _ x v (is_dp fh 60 d1 ho.1 i1) rx
    obtain ⟨bs, r2⟩ := Dp.reads I _ y u (is_dp fh 60 d2 ho.2 i2) ry
    have p1 := py_plain 60 d1 ho.1
    have p2 := py_plain 60 d2 ho.2
    exact SeqAt.ne_plain r1 r2 p1.1 p2.1 (by have := hr.units; have : min (py d1).depth (py d2).depth ≤ (py d1).depth := Nat.min_le_left _ _; omega)
      ⟨.bl _, H, I, rfl, by rw [eqF_py 60 d1 d2 ho.1 ho.2]; exact h.val fh (.bl _)⟩
  · exact h.elim
def ltD : D → D → Option Rf
  | .int i, .int j => some (.dat (.bl (decide (i < j))))
  | .str i, .str j => some (.dat (.bl (decide (i.cps.toList < j.cps.toList))))
  | _, _ => none
theorem op_ltD : OpD T (compareOp .Lt) ltD := by
  intro pins s σ H x y v u Q I rx ry h
  obtain ⟨F, d1, d2, fh, i1, i2, h⟩ := h
  match d1, d2, i1, i2, h with
  | .int i, .int j, i1, i2, h => exact op_lt pins s σ H x y v u Q I rx ry ⟨i, j, i1.int, i2.int, h.val fh (.bl _)⟩
  | .str i, .str j, i1, i2, h => exact op_lt_str pins s σ H x y v u Q I rx ry ⟨i, j, i1.str, i2.str, h.val fh (.bl _)⟩
def leD : D → D → Option Rf
  | .int i, .int j => some (.dat (.bl (decide (i ≤ j))))
  | .str i, .str j => some (.dat (.bl (!decide (j.cps.toList < i.cps.toList))))
  | _, _ => none
theorem op_leD : OpD T (compareOp .LtE) leD := by
  intro pins s σ H x y v u Q I rx ry h
  obtain ⟨F, d1, d2, fh, i1, i2, h⟩ := h
  match d1, d2, i1, i2, h with
  | .int i, .int j, i1, i2, h => exact op_le pins s σ H x y v u Q I rx ry ⟨i, j, i1.int, i2.int, h.val fh (.bl _)⟩
  | .str i, .str j, i1, i2, h => exact op_le_str pins s σ H x y v u Q I rx ry ⟨i, j, i1.str, i2.str, h.val fh (.bl _)⟩
def gtD : D → D → Option Rf
  | .int i, .int j => some (.dat (.bl (decide (j < i))))
  | .str i, .str j => some (.dat (.bl (decide (j.cps.toList < i.cps.toList))))
  | _, _ => none
theorem op_gtD : OpD T (compareOp .Gt) gtD := by
  intro pins s σ H x y v u Q I rx ry h
  obtain ⟨F, d1, d2, fh, i1, i2, h⟩ := h
  match d1, d2, i1, i2, h with
  | .int i, .int j, i1, i2, h => exact op_gt pins s σ H x y v u Q I rx ry ⟨i, j, i1.int, i2.int, h.val fh (.bl _)⟩
  | .str i, .str j, i1, i2, h => exact op_gt_str pins s σ H x y v u Q I rx ry ⟨i, j, i1.str, i2.str, h.val fh (.bl _)⟩
def geD : D → D → Option Rf
  | .int i, .int j => some (.dat (.bl (decide (j ≤ i))))
  | .str i, .str j => some (.dat (.bl (!decide (i.cps.toList < j.cps.toList))))
  | _, _ => none
theorem op_geD : OpD T (compareOp .GtE) geD := by
  intro pins s σ H x y v u Q I rx ry h
  obtain ⟨F, d1, d2, fh, i1, i2, h⟩ := h
  match d1, d2, i1, i2, h with
  | .int i, .int j, i1, i2, h => exact op_ge pins s σ H x y v u Q I rx ry ⟨i, j, i1.int, i2.int, h.val fh (.bl _)⟩
  | .str i, .str j, i1, i2, h => exact op_ge_str pins s σ H x y v u Q I rx ry ⟨i, j, i1.str, i2.str, h.val fh (.bl _)⟩
/-- x in y: one sign or a text in a text; plain data in a list or a tuple of such -/
def inB : D → D → Option Bool
  | .str x, .str z => match x.cps.toList with
    | [c] => some (decide (c ∈ z.cps.toList))
    | _ => some (!(Builtin.Str.occurrences z x 0 z.length 1).isEmpty)
  | d, .lst xs => if okD 59 d && xs.all (okD 59) then some (xs.any fun y => eqF 59 y d) else none
  | d, .tup xs => if okD 59 d && xs.all (okD 59) then some (xs.any fun y => eqF 59 y d) else none
  | _, _ => none
def inD (d e : D) : Option Rf := (inB d e).map fun b => .dat (.bl b)
def notInD (d e : D) : Option Rf := (inB d e).map fun b => .dat (.bl !b)
theorem any_py {n : Nat} {d : D} (hd : okD n d = true) : ∀ {xs : List D}, xs.all (okD n) = true → ((pyAll xs).any fun y => PyData.eqv y (py d)) = xs.any fun y => eqF n y d
  | [], _ => by simp [pyAll]
  | x :: xs, h => by
    simp only [List.all_cons, Bool.and_eq_true] at h
    simp only [pyAll, List.any_cons, eqF_py n x d h.1 hd, any_py hd h.2]
theorem in_core {k : Nat} (hr : Room k T.X.A) {op : CmpOp} {g : Bool → Bool} (hop : (op = .In ∧ g = id) ∨ (op = .NotIn ∧ g = not)) : OpD T (compareOp op) fun d e => (inB d e).map fun b => .dat (.bl (g b)) := by
  intro pins s σ H x y v u Q I rx ry h
  obtain ⟨F, d1, d2, fh, i1, i2, h⟩ := h
  have seq : ∀ (xs : List D), okD 59 d1 = true → xs.all (okD 59) = true → (d2 = .lst xs ∨ d2 = .tup xs) → Q (.bl (g (xs.any fun y => eqF 59 y d1))) H → wpAny (model T.X.prog T.X.w) T.X.A (compareOp op v u) (EP T.X pins σ Q) T.X.xe s := fun xs o1 o2 hd q => by
    have p1 := py_plain 59 d1 o1
    have p3 : okD 60 (.lst xs) = true := by simpa [okD] using o2
    have p3' : okD 60 (.tup xs) = true := by simpa [okD] using o2
    have p2 := py_plain 60 (.lst xs) p3
    have pl : PyData.plainAll (pyAll xs) = true := by simpa [py, PyData.plain] using p2.1
    have pd : PyData.depthAll (pyAll xs) ≤ 59 := by have := p2.2; simp only [py, PyData.depth] at this; omega
    obtain ⟨as, r1⟩ := Dp.reads I _ x v (is_dp fh 59 d1 o1 i1) rx
    have hu := hr.units
    have hm : min (PyData.depthAll (pyAll xs)) (py d1).depth ≤ PyData.depthAll (pyAll xs) := Nat.min_le_left _ _
    rw [← any_py o1 o2] at q
    rcases hd with rfl | rfl
    · obtain ⟨bs, r2⟩ := Dp.reads I _ y u (is_dp fh 60 _ p3 i2) ry
      simp only [py] at r2
      rcases hop with ⟨rfl, rfl⟩ | ⟨rfl, rfl⟩
      · exact SeqAt.in_list_data r2 r1 pl p1.1 (by omega) ⟨.bl _, H, I, rfl, q⟩
      · exact SeqAt.notIn_list_data r2 r1 pl p1.1 (by omega) ⟨.bl _, H, I, rfl, q⟩
    · obtain ⟨bs, r2⟩ := Dp.reads I _ y u (is_dp fh 60 _ p3' i2) ry
      simp only [py] at r2
      rcases hop with ⟨rfl, rfl⟩ | ⟨rfl, rfl⟩
      · exact SeqAt.in_tuple_data r2 r1 pl p1.1 (by omega) ⟨.bl _, H, I, rfl, q⟩
      · exact SeqAt.notIn_tuple_data r2 r1 pl p1.1 (by omega) ⟨.bl _, H, I, rfl, q⟩
  have goSeq : ∀ (xs : List D), (d2 = .lst xs ∨ d2 = .tup xs) → inB d1 d2 = (if okD 59 d1 && xs.all (okD 59) then some (xs.any fun y => eqF 59 y d1) else none) → wpAny (model T.X.prog T.X.w) T.X.A (compareOp op v u) (EP T.X pins σ Q) T.X.xe s := fun xs hd e => by
    have h : Res T F H Q ((inB d1 d2).map fun b => .dat (.bl (g b))) := h
    rw [e] at h
    split at h
    · rename_i ho
      simp only [Bool.and_eq_true] at ho
      exact seq xs ho.1 ho.2 hd (h.val fh (.bl _))
    · exact h.elim
  have h : Res T F H Q ((inB d1 d2).map fun b => .dat (.bl (g b))) := h
  cases d2 with
  | lst xs => exact goSeq xs (.inl rfl) (by cases d1 <;> rfl)
  | tup xs => exact goSeq xs (.inr rfl) (by cases d1 <;> rfl)
  | str z =>
    cases d1 with
    | str w =>
      simp only [inB] at h
      split at h
      · rename_i c hc
        have ew : w = ⟨#[c]⟩ := by
          obtain ⟨⟨l⟩⟩ := w
          simp only at hc
          rw [hc]
        have q := h.val fh (.bl _)
        rcases hop with ⟨rfl, rfl⟩ | ⟨rfl, rfl⟩
        · exact op_in_sign pins s σ H x y v u Q I rx ry ⟨c, z, by rw [i1.str, ew], i2.str, q⟩
        · exact op_notIn_sign pins s σ H x y v u Q I rx ry ⟨c, z, by rw [i1.str, ew], i2.str, q⟩
      · have q := h.val fh (.bl _)
        rcases hop with ⟨rfl, rfl⟩ | ⟨rfl, rfl⟩
        · exact op_in_str pins s σ H x y v u Q I rx ry ⟨w, z, i1.str, i2.str, q⟩
        · exact op_notin_str pins s σ H x y v u Q I rx ry ⟨w, z, i1.str, i2.str, q⟩
    | _ => exact False.elim h
  | _ => exact False.elim (by cases d1 <;> exact h)
theorem op_inDD {k : Nat} (hr : Room k T.X.A) : OpD T (compareOp .In) inD := in_core hr (g := id) (.inl ⟨rfl, rfl⟩)
theorem op_notInDD {k : Nat} (hr : Room k T.X.A) : OpD T (compareOp .NotIn) notInD := in_core hr (g := not) (.inr ⟨rfl, rfl⟩)
end
end DL

/-! DL4: statements: blocks, if, while, stores, return. -/
namespace DL
open PySem L2

/-- how a statement ends -/
inductive Fl where
  | nx | bk | ct | rt (r : Rf)

def RunS (T : Tx) (B F0 : Hp) {α : Type} (c : M α) (F : Hp) (Γ : List Sl) (σ : St) (H : Hp) (P : α → Hp → List Sl → St → Hp → Prop) : Prop :=
  T.Sat B F0 F Γ σ H ∧ match c Γ with
    | none => False
    | some (.ok a, Γ') => ∀ F' H' σ', Same F F' → T.Sat B F0 F' Γ' σ' H' → P a F' Γ' σ' H'
    | some (.error e, Γ') => ∀ F' H' σ' cls dx, Same F F' → T.Sat B F0 F' Γ' σ' H' → IsExc T.X.K T.cm F' cls dx e → T.W cls dx σ' H'
section
variable {T : Tx} {B F0 F : Hp} {Γ : List Sl} {σ : St} {H : Hp} {α β : Type}
theorem RunS.mono {c : M α} {P P' : α → Hp → List Sl → St → Hp → Prop} (r : RunS T B F0 c F Γ σ H P) (h : ∀ a F' Γ' σ' H', Same F F' → T.Sat B F0 F' Γ' σ' H' → P a F' Γ' σ' H' → P' a F' Γ' σ' H') : RunS T B F0 c F Γ σ H P' := by
  obtain ⟨S, r⟩ := r
  refine ⟨S, ?_⟩
  rcases e : c Γ with _ | ⟨x | a, Γ'⟩
  · rw [e] at r; exact r
  · rw [e] at r; exact r
  · rw [e] at r
    exact fun F' H' σ' q S' => h a F' Γ' σ' H' q S' (r F' H' σ' q S')
theorem RunS.bnd {c : M α} {k : α → M β} {P : β → Hp → List Sl → St → Hp → Prop} (r : RunS T B F0 (DL.bnd c k) F Γ σ H P) : RunS T B F0 c F Γ σ H fun a F' Γ' σ' H' => RunS T B F0 (k a) F' Γ' σ' H' P := by
  obtain ⟨S, r⟩ := r
  refine ⟨S, ?_⟩
  rcases e : c Γ with _ | ⟨x | a, Γ'⟩
  · rw [bnd_none e] at r; exact r
  · rw [bnd_err e] at r; exact r
  · rw [bnd_ok e] at r
    refine fun F' H' σ' q S' => ⟨S', ?_⟩
    rcases e2 : k a Γ' with _ | ⟨x | b, Γ''⟩
    · rw [e2] at r; exact r
    · rw [e2] at r
      exact fun F'' H'' σ'' cls dx q2 S2 i => r F'' H'' σ'' cls dx (q.trans q2) S2 i
    · rw [e2] at r
      exact fun F'' H'' σ'' q2 S2 => r F'' H'' σ'' (q.trans q2) S2
theorem RunS.ret {a : α} {P : α → Hp → List Sl → St → Hp → Prop} (r : RunS T B F0 (DL.ret a) F Γ σ H P) : T.Sat B F0 F Γ σ H ∧ P a F Γ σ H := ⟨r.1, r.2 F H σ (.refl _) r.1⟩
theorem RunS.run {c : M α} {P : α → Hp → List Sl → St → Hp → Prop} (r : RunS T B F0 c F Γ σ H P) : Run T B F0 c F Γ σ H fun a F' Γ' H' => P a F' Γ' σ H' := by
  obtain ⟨S, r⟩ := r
  refine ⟨S, ?_⟩
  rcases e : c Γ with _ | ⟨x | a, Γ'⟩
  · rw [e] at r; exact r
  · rw [e] at r; exact fun F' H' cls dx q S' i => r F' H' σ cls dx q S' i
  · rw [e] at r; exact fun F' H' q S' => r F' H' σ q S'
theorem RunS.step {c : M α} {P : α → Hp → List Sl → St → Hp → Prop} {F' H' : Hp} {σ' : St} (r : RunS T B F0 c F Γ σ H P) (q : Same F F') (S' : T.Sat B F0 F' Γ σ' H') : RunS T B F0 c F' Γ σ' H' P := by
  obtain ⟨S, r⟩ := r
  refine ⟨S', ?_⟩
  rcases e : c Γ with _ | ⟨x | a, Γ'⟩
  · rw [e] at r; exact r
  · rw [e] at r
    exact fun F'' H'' σ'' cls dx q2 S2 i => r F'' H'' σ'' cls dx (q.trans q2) S2 i
  · rw [e] at r
    exact fun F'' H'' σ'' q2 S2 => r F'' H'' σ'' (q.trans q2) S2
end
/-- what is wanted at an end -/
def fin (T : Tx) (B : Hp) (D : Ends) : Fl → Hp → List Sl → St → Hp → Prop
  | .nx => fun _ _ σ H => D.nx σ H
  | .bk => fun _ _ σ H => D.bk σ H
  | .ct => fun _ _ σ H => D.ct σ H
  | .rt r => fun F Γ σ H => ∀ v, IsRf T.X.K T.cm B F Γ σ H v r → D.rt v H
def tSt (T : Tx) (B F0 : Hp) (c : M Fl) : TS := fun D σ H => ∃ F Γ, RunS T B F0 c F Γ σ H (fin T B D)
/-- the statement does what c says -/
def RS (T : Tx) (st : Stmt) (c : M Fl) : Prop := ∀ B F0, PS T.X st (tSt T B F0 c)
def RSs (T : Tx) (st : List Stmt) (c : M Fl) : Prop := ∀ B F0, PSs T.X st (tSt T B F0 c)

/-! ### blocks -/
def sSkip : M Fl := ret .nx
def sSeq (a b : M Fl) : M Fl := bnd a fun f => match f with
  | .nx => b
  | f => ret f
def sIf (t : M Bool) (a b : M Fl) : M Fl := bnd t fun k => if k then a else b
def sDrop (c : M Rf) : M Fl := bnd c fun _ => ret .nx
def sRet (c : M Rf) : M Fl := bnd c fun r => ret (.rt r)
section
variable {T : Tx} {e c : Expr} {st : Stmt} {sts ss : List Stmt} {ca : M Rf} {ta : M Bool} {cs ct : M Fl} {pos : Pos}
theorem rss_nil : RSs T [] sSkip := fun B F0 => pss_nil.weak fun D σ H ⟨F, Γ, r⟩ => r.ret.2
theorem rss_cons (h : RS T st cs) (g : RSs T sts ct) : RSs T (st :: sts) (sSeq cs ct) := fun B F0 => (pss_cons (h B F0) (g B F0)).weak fun D σ H ⟨F, Γ, r⟩ => ⟨F, Γ, r.bnd.mono fun f F1 Γ1 σ1 H1 q1 S1 r1 => by
  cases f with
  | nx => exact ⟨F1, Γ1, r1⟩
  | bk => exact r1.ret.2
  | ct => exact r1.ret.2
  | rt r => exact r1.ret.2⟩
theorem rss_one (h : RS T st cs) : RSs T [st] cs := fun B F0 => pss_one (h B F0)
theorem rs_pass : RS T (.Pass pos) sSkip := fun B F0 => ps_pass.weak fun D σ H ⟨F, Γ, r⟩ => r.ret.2
theorem rs_break : RS T (.Break pos) (ret .bk) := fun B F0 => ps_break.weak fun D σ H ⟨F, Γ, r⟩ => r.ret.2
theorem rs_continue : RS T (.Continue pos) (ret .ct) := fun B F0 => ps_continue.weak fun D σ H ⟨F, Γ, r⟩ => r.ret.2
theorem rs_expr (h : RE T e ca) (hs : swapsWith e none pos.line T.X.env = pure false := by rfl) : RS T (.Expr e pos) (sDrop ca) := fun B F0 => (ps_expr (h B F0) hs).weak fun D σ H ⟨F, Γ, r⟩ => ⟨F, Γ, r.bnd.run.mono fun x F1 Γ1 H1 q1 S1 r1 v hv => r1.ret.2⟩
theorem rs_ret (h : RE T e ca) : RS T (.Return (some e) pos) (sRet ca) := fun B F0 => (ps_ret (h B F0)).weak fun D σ H ⟨F, Γ, r⟩ => ⟨F, Γ, r.bnd.run.mono fun x F1 Γ1 H1 q1 S1 r1 v hv => r1.ret.2 v hv⟩
theorem rs_retN : RS T (.Return none pos) (ret (.rt (.dat .non))) := fun B F0 => ps_retN.weak fun D σ H ⟨F, Γ, r⟩ => r.ret.2 _ .non
theorem rs_if (h : RT T c ta) (ha : RSs T sts cs) (hb : RSs T ss ct) : RS T (.If c sts ss pos) (sIf ta cs ct) := fun B F0 => (ps_if (h B F0) (ha B F0) (hb B F0)).weak fun D σ H ⟨F, Γ, r⟩ => ⟨F, Γ, r.bnd.run.mono fun k F1 Γ1 H1 q1 S1 r1 => by
  cases k with
  | true => rw [if_pos rfl]; exact ⟨F1, Γ1, by simpa using r1⟩
  | false => rw [if_neg (by simp)]; exact ⟨F1, Γ1, by simpa using r1⟩⟩
end

/-! ### stores -/
def gSet (i : Nat) (d : D) : M Unit := fun Γ => if i < Γ.length then some (.ok (), Γ.set i (.dat d)) else none
def gOwn (i : Nat) (d : D) : M Unit := fun Γ => if i < Γ.length then some (.ok (), Γ.set i (.own d)) else none
def stR (i : Nat) : Rf → M Unit
  | .dat d => gSet i d
  | .own d => gOwn i d
  | .slot j => bnd (capR (.slot j)) (gSet i)
def sSet (i : Nat) (c : M Rf) : M Fl := bnd c fun r => bnd (stR i r) fun _ => ret .nx
/-- the lent object's slot is not stored to -/
abbrev NoIo (T : Tx) (i : Nat) : Prop := T.io = none ∨ i ≠ 0
section
variable {T : Tx} {B F0 F : Hp} {Γ : List Sl} {σ : St} {H : Hp}
theorem RunS.gSet {i : Nat} {d : D} {v : V} {P : Unit → Hp → List Sl → St → Hp → Prop} (r : RunS T B F0 (DL.gSet i d) F Γ σ H P) (hi : NoIo T i) (h : T.Is F v d) : T.Sat B F0 F (Γ.set i (.dat d)) (σ.set i (some v)) H ∧ P () F (Γ.set i (.dat d)) (σ.set i (some v)) H := by
  obtain ⟨S, r⟩ := r
  unfold DL.gSet at r
  split at r
  · exact r.elim
  · rename_i a Γ' e
    split at e
    · injection e with e; injection e with e1 e2; subst e2
      have S' := S.set hi h
      exact ⟨S', r F H _ (.refl _) S'⟩
    · cases e
  · rename_i a Γ' e
    split at e <;> cases e
theorem RunS.gOwn {i : Nat} {d : D} {v : V} {P : Unit → Hp → List Sl → St → Hp → Prop} (r : RunS T B F0 (DL.gOwn i d) F Γ σ H P) (hi : NoIo T i) (h : IsRf T.X.K T.cm B F Γ σ H v (.own d)) : T.Sat B F0 F (Γ.set i (.own d)) (σ.set i (some v)) H ∧ P () F (Γ.set i (.own d)) (σ.set i (some v)) H := by
  obtain ⟨S, r⟩ := r
  obtain ⟨a, ho, rfl, h1, h2, h3, h4, h5⟩ := h
  unfold DL.gOwn at r
  split at r
  · exact r.elim
  · rename_i a Γ' e
    split at e
    · injection e with e; injection e with e1 e2; subst e2
      have S' := S.setOwn hi h1 h2 h3 h4 h5
      exact ⟨S', r F H _ (.refl _) S'⟩
    · cases e
  · rename_i a Γ' e
    split at e <;> cases e
theorem RunS.capSlot {j : Nat} {v : V} {P : D → Hp → List Sl → St → Hp → Prop} (r : RunS T B F0 (capR (.slot j)) F Γ σ H P) (h : σ[j]? = some (some v)) : ∃ d F', Same F F' ∧ T.Is F' v d ∧ T.Sat B F0 F' (Γ.set j (.dat d)) σ H ∧ P d F' (Γ.set j (.dat d)) σ H ∧
    (∃ a ho, v = .ref a ∧ Γ[j]? = some (.own d) ∧ F a = none ∧ F' = upd F a ho) := by
  obtain ⟨S, r⟩ := r
  unfold capR at r
  simp only at r
  split at r
  · exact r.elim
  · rename_i a Γ' e
    split at e
    · rename_i d hd
      injection e with e; injection e with e1 e2; injection e1 with e1; subst e1; subst e2
      obtain ⟨a, ho, F2, g1, g2, rfl, g3, g4, g5⟩ := S.frSlot hd
      obtain ⟨a', ho', k1, k2, _⟩ := S.ow j _ hd
      rw [g1] at h; injection h with h; injection h with h; subst h
      rw [g1] at k1; injection k1 with k1; injection k1 with k1; injection k1 with k1; subst k1
      exact ⟨_, _, g3, g4, g5, r _ H σ g3 g5, a, ho, rfl, hd, k2, rfl⟩
    · cases e
  · rename_i a Γ' e
    split at e <;> cases e
variable {e : Expr} {ca : M Rf} {pos pos' : Pos} {x : Str}
theorem RunS.stR {i : Nat} {r0 : Rf} {v : V} {P : Unit → Hp → List Sl → St → Hp → Prop} (r : RunS T B F0 (DL.stR i r0) F Γ σ H P) (hi : NoIo T i) (h : IsRf T.X.K T.cm B F Γ σ H v r0) : ∃ F' Γ', P () F' Γ' (σ.set i (some v)) H := by
  cases r0 with
  | dat d => exact ⟨_, _, (r.gSet hi h).2⟩
  | own d => exact ⟨_, _, (r.gOwn hi h).2⟩
  | slot j =>
    obtain ⟨d, F', q, i1, S', r1, _⟩ := r.bnd.capSlot h.1
    exact ⟨_, _, (r1.gSet hi i1).2⟩
/-- x = e, the name in slot i -/
theorem rs_set (i : Nat) (h : RE T e ca) (hN : T.X.N.Nodup) (hx : T.X.N[i]? = some x := by rfl) (hl : Loc T.X.env.scope x := by first | exact Or.inl rfl | exact Or.inr rfl) (hio : NoIo T i := by first | exact Or.inl rfl | exact Or.inr (by decide))
    (hs : swapsWith e (some (.Name x pos')) pos.line T.X.env = pure false := by rfl) (hf : T.X.fn x = true ∨ T.X.env.scope.names.lookup x = some .local := by first | exact .inl rfl | exact .inr rfl | assumption) : RS T (.Assign [.Name x pos'] e pos) (sSet i ca) := fun B F0 =>
  (ps_set hN hx hl (h B F0) hs hf).weak fun D σ H ⟨F, Γ, r⟩ => ⟨F, Γ, r.bnd.run.mono fun r0 F1 Γ1 H1 q1 S1 r1 v hv => by
    obtain ⟨F', Γ', r2⟩ := r1.bnd.stR hio hv
    exact r2.ret.2⟩

/-! ### targets -/
def tG (T : Tx) (B F0 : Hp) (g : D → M Unit) : TG := fun v σ H Q => ∃ F Γ d, T.Is F v d ∧ RunS T B F0 (g d) F Γ σ H fun _ F' Γ' σ' H' => Q σ' H'
def RG (T : Tx) (tg : Expr) (g : D → M Unit) : Prop := ∀ B F0, PG T.X tg (tG T B F0 g)
def gNone : List D → M Unit
  | [] => ret ()
  | _ => fail
def gMore (g : D → M Unit) (gs : List D → M Unit) : List D → M Unit
  | d :: ds => bnd (g d) fun _ => gs ds
  | _ => fail
def gTupD (n : Nat) (gs : List D → M Unit) : D → M Unit
  | .tup ds => if ds.length = n then gs ds else fail
  | _ => fail
def tGs (T : Tx) (B F0 : Hp) (gs : List D → M Unit) : TGs := fun vs σ H Q => ∃ F Γ ds, IsAll T.X.K T.cm F vs ds ∧ RunS T B F0 (gs ds) F Γ σ H fun _ F' Γ' σ' H' => Q σ' H'
def RGs (T : Tx) (ts : List Expr) (gs : List D → M Unit) : Prop := ∀ B F0, PGs T.X ts (tGs T B F0 gs)
theorem _root_.L2.PG.weak {X : Cx} {e : Expr} {t t' : TG} (h : PG X e t) (w : ∀ v σ H Q, t' v σ H Q → t v σ H Q) : PG X e t' := ⟨fun pins s σ H v u Q I r q => h.run pins s σ H v u Q I r (w v σ H Q q)⟩
theorem _root_.L2.PGs.weak {X : Cx} {e : List Expr} {t t' : TGs} (h : PGs X e t) (w : ∀ v σ H Q, t' v σ H Q → t v σ H Q) : PGs X e t' := ⟨fun pins s σ H v u Q I r q => h.run pins s σ H v u Q I r (w v σ H Q q)⟩
theorem rg_name (i : Nat) (hN : T.X.N.Nodup) (hi : T.X.N[i]? = some x := by rfl) (hx : Loc T.X.env.scope x := by first | exact Or.inl rfl | exact Or.inr rfl) (hio : NoIo T i := by first | exact Or.inl rfl | exact Or.inr (by decide))
    (hf : T.X.fn x = true ∨ T.X.env.scope.names.lookup x = some .local := by first | exact .inl rfl | exact .inr rfl | assumption) : RG T (.Name x pos) (gSet i) := fun B F0 =>
  (pg_name hN hi hx hf).weak fun v σ H Q ⟨F, Γ, d, i, r⟩ => (r.gSet hio i).2
theorem rgs_nil : RGs T [] gNone := fun B F0 => pgs_nil.weak fun vs σ H Q ⟨F, Γ, ds, i, r⟩ => by
  cases ds with
  | nil => cases i; exact ⟨rfl, r.ret.2⟩
  | cons d ds => exact r.2.elim
theorem rgs_cons {t : Expr} {ts : List Expr} {g : D → M Unit} {gs : List D → M Unit} (h1 : RG T t g) (h2 : RGs T ts gs) (hs : (assignEach (t :: ts) T.X.env).map (·.2) = assign t T.X.env :: (assignEach ts T.X.env).map (·.2) := by rfl) : RGs T (t :: ts) (gMore g gs) := fun B F0 =>
  (pgs_cons (h1 B F0) (h2 B F0) hs).weak fun vs σ H Q ⟨F, Γ, ds, i, r⟩ => by
    cases ds with
    | nil => exact r.2.elim
    | cons d ds =>
      cases i with
      | cons i is => exact ⟨_, _, rfl, F, Γ, d, i, r.bnd.mono fun _ F1 Γ1 σ1 H1 q1 S1 r1 => ⟨F1, Γ1, ds, is.mono q1 _, r1⟩⟩
theorem rg_tup {es : List Expr} {k n : Nat} {gs : List D → M Unit} (h : RGs T es gs) (hc : T.X.calm = true) (hn : (assignEach es T.X.env).length = n := by rfl) (hst : (assignEach es T.X.env).findIdx? (·.1) = none := by rfl) : RG T (.Tuple es k pos) (gTupD n gs) := fun B F0 =>
  (pg_tup hc (h B F0) hn hst).weak fun v σ H Q ⟨F, Γ, d, i, r⟩ => by
    cases d with
    | tup ds =>
      obtain ⟨a, vs, rfl, g1, g2⟩ := IsT.tup r.1.fh (.inl i)
      by_cases hl : ds.length = n
      · have r' : RunS T B F0 (gs ds) F Γ σ H fun _ F' Γ' σ' H' => Q σ' H' := by simpa only [gTupD, if_pos hl] using r
        exact ⟨a, vs, rfl, g1, by rw [g2.length, hl], F, Γ, ds, g2, r'⟩
      · have r' := r.2
        simp only [gTupD, if_neg hl] at r'
        exact r'.elim
    | _ => exact r.2.elim
/-- target = e (a tuple's items to names) -/
def sAsg (g : D → M Unit) (c : M Rf) : M Fl := bnd (cap c) fun d => bnd (g d) fun _ => ret .nx
theorem rs_asg {tg : Expr} {g : D → M Unit} (h : RE T e ca) (hg : RG T tg g) (hs : swapsWithSole [tg] e pos.line T.X.env = pure false := by rfl) (hw : swappedStores [tg] e T.X.env = pure none := by rfl)
    (h1 : (assignEach [tg] T.X.env).map (·.2) = [assign tg T.X.env] := by rfl) : RS T (.Assign [tg] e pos) (sAsg g ca) := fun B F0 =>
  (ps_asg (rd_of h B F0) (hg B F0) hs hw h1).weak fun D σ H ⟨F, Γ, r⟩ => ⟨F, Γ, r.bnd.run.mono fun d F1 Γ1 H1 q1 S1 r1 v hv => ⟨F1, Γ1, d, hv, r1.bnd.mono fun _ F2 Γ2 σ2 H2 q2 S2 r2 => r2.ret.2⟩⟩

/-! ### a, b = e1, e2 -/
/-- values that wait: own ones stand apart -/
def IsPd (K : PySem.W.Frag) (cm : Nat → Addr) (B F : Hp) (Γ : List Sl) (σ : St) (H : Hp) (v : V) : Rf → Prop
  | .dat d => DL.Is K cm F v d
  | .own d => ∃ a ho, v = .ref a ∧ F a = none ∧ B a = none ∧ H a = some ho ∧ OwnIs K cm F ho d ∧ ∀ (i : Nat) (e : D), Γ[i]? = some (.own e) → σ[i]? ≠ some (some (.ref a))
  | .slot i => σ[i]? = some (some v)
def IsPds (K : PySem.W.Frag) (cm : Nat → Addr) (B F : Hp) (Γ : List Sl) (σ : St) (H : Hp) : List V → List Rf → Prop
  | [], [] => True
  | v :: vs, r :: rs => IsPd K cm B F Γ σ H v r ∧ (∀ d, r = .own d → ∀ (j : Nat) (e : D), rs[j]? = some (.own e) → vs[j]? ≠ some v) ∧ IsPds K cm B F Γ σ H vs rs
  | _, _ => False
def rNil : M (List Rf) := ret []
def rCons (a : M Rf) (r : M (List Rf)) : M (List Rf) := bnd a fun x => bnd r fun xs => ret (x :: xs)
def tAR (T : Tx) (c : M (List Rf)) : TA := fun σ H Q => ∃ B F0 F Γ, Run T B F0 c F Γ σ H fun rs F' Γ' H' => ∀ vs, IsPds T.X.K T.cm B F' Γ' σ H' vs rs → Q vs H'
def RR' (T : Tx) (es : List Expr) (c : M (List Rf)) : Prop := PA T.X es (tAR T c)
theorem Sat.weakB {K : PySem.W.Frag} {cm : Nat → Addr} {io : Option Addr} {B B' : Hp} (S : DL.Sat K cm io B' F0 F Γ σ H) (q : Same B B') : DL.Sat K cm io B F0 F Γ σ H where
  fh := S.fh
  bh := q.trans S.bh
  f0 := S.f0
  nw := fun p o e => by
    rcases S.nw p o e with h | h
    · exact .inl h
    · exact .inr (q.free h)
  len := S.len
  dt := S.dt
  ow := fun i d e => let ⟨a, ho, h1, h2, h3, h4, h5⟩ := S.ow i d e; ⟨a, ho, h1, h2, q.free h3, h4, h5⟩
  ap := S.ap
  ioA := S.ioA
/-- an own object that waits is kept by what runs meanwhile -/
theorem Run.frame {α : Type} {c : M α} {P : α → Hp → List Sl → Hp → Prop} {p : Addr} {ho : HO} (r : Run T B F0 c F Γ σ H P) (hB : B p = none) (hF : F p = none) (hH : H p = some ho) (hn : ∀ (i : Nat) (e : D), Γ[i]? = some (.own e) → σ[i]? ≠ some (some (.ref p))) :
    Run T (upd B p ho) F0 c F Γ σ H fun a F' Γ' H' => T.Sat B F0 F' Γ' σ H' ∧ F' p = none ∧ H' p = some ho ∧ P a F' Γ' H' := by
  obtain ⟨S, r⟩ := r
  have S' : T.Sat (upd B p ho) F0 F Γ σ H := by
    refine ⟨S.fh, fun b o e => ?_, S.f0, fun q o e => ?_, S.len, S.dt, fun i d e => ?_, S.ap, S.ioA⟩
    · by_cases hb : b = p
      · subst hb; rw [upd_same] at e; cases e; exact hH
      · rw [upd_ne hb] at e; exact S.bh b o e
    · rcases S.nw q o e with h | h
      · exact .inl h
      · have : q ≠ p := fun z => by subst z; rw [hF] at e; cases e
        exact .inr (by rw [upd_ne this]; exact h)
    · obtain ⟨a, ho', h1, h2, h3, h4, h5⟩ := S.ow i d e
      have : a ≠ p := fun z => hn i d e (by rw [h1, z])
      exact ⟨a, ho', h1, h2, by rw [upd_ne this]; exact h3, h4, h5⟩
  have key : ∀ F' Γ' H', T.Sat (upd B p ho) F0 F' Γ' σ H' → T.Sat B F0 F' Γ' σ H' ∧ F' p = none ∧ H' p = some ho := fun F' Γ' H' S2 => by
    refine ⟨S2.weakB (.up hB), ?_, S2.bh _ _ upd_same⟩
    cases e : F' p with
    | none => rfl
    | some o =>
      rcases S2.nw p o e with h | h
      · rw [S.f0 p o h] at hF; cases hF
      · rw [upd_same] at h; cases h
  refine ⟨S', ?_⟩
  rcases e : c Γ with _ | ⟨x | a, Γ'⟩
  · rw [e] at r; exact r
  · rw [e] at r; exact fun F' H' cls dx q S2 i => r F' H' cls dx q (key F' Γ' H' S2).1 i
  · rw [e] at r; exact fun F' H' q S2 => let ⟨k1, k2, k3⟩ := key F' Γ' H' S2; ⟨k1, k2, k3, r F' H' q k1⟩
theorem rr_nil : RR' T [] rNil := pa_nil.weak fun σ H Q ⟨B, F0, F, Γ, r⟩ => r.ret.2 [] trivial
def tSx (T : Tx) (c : M Rf) : TE := fun σ H Q => ∃ B F0, tS T B F0 c σ H Q
theorem re_x (h : RE T e ca) : PE T.X e (tSx T ca) := ⟨fun pins s σ H Q I ⟨B, F0, q⟩ => (h B F0).run pins s σ H Q I q⟩
theorem IsPd.mono {F' H' : Hp} {Γ' : List Sl} {v : V} {r : Rf} (h : IsPd T.X.K T.cm B F Γ σ H v r) (hr : ∀ d, r ≠ .own d) (q : Same F F') : IsPd T.X.K T.cm B F' Γ' σ H' v r := by
  cases r with
  | dat d => exact Is.mono q _ h
  | own d => exact absurd rfl (hr d)
  | slot i => exact h
theorem rr_cons {es : List Expr} {cs : M (List Rf)} (ha : RE T e ca) (hr : RR' T es cs) (hs : starEach (e :: es) T.X.env = (false, eval e T.X.env) :: starEach es T.X.env := by rfl) : RR' T (e :: es) (rCons ca cs) :=
  (pa_cons (re_x ha) hr hs).weak fun σ H Q ⟨B, F0, F, Γ, r⟩ => ⟨B, F0, F, Γ, r.bnd.mono fun x F1 Γ1 H1 q1 S1 r1 v hv => by
    cases x with
    | dat d => exact ⟨B, F0, F1, Γ1, r1.bnd.mono fun rs F2 Γ2 H2 q2 S2 r2 vs hvs => r2.ret.2 _ ⟨Is.mono q2 _ hv, (fun _ z => by cases z), hvs⟩⟩
    | slot i => exact ⟨B, F0, F1, Γ1, r1.bnd.mono fun rs F2 Γ2 H2 q2 S2 r2 vs hvs => r2.ret.2 _ ⟨hv.1, (fun _ z => by cases z), hvs⟩⟩
    | own d =>
      obtain ⟨p, ho, rfl, h1, h2, h3, h4, h5⟩ := hv
      refine ⟨upd B p ho, F0, F1, Γ1, (r1.bnd.frame h2 h1 h3 h5).mono fun rs F2 Γ2 H2 q2 S2 ⟨SB, k2, k3, r2⟩ vs hvs => ?_⟩
      refine r2.ret.2 (.ref p :: vs) ⟨⟨p, ho, rfl, k2, h2, k3, h4.mono q2, fun i e he hσ => ?_⟩, fun d' _ j e he hj => ?_, ?_⟩
      · obtain ⟨a, ho', g1, _, g3, _⟩ := S2.ow i e he
        rw [g1] at hσ; injection hσ with hσ; injection hσ with hσ; injection hσ with hσ; subst hσ
        rw [upd_same] at g3; cases g3
      · -- another waiting own value stands elsewhere
        have key : ∀ (vs : List V) (rs : List Rf), IsPds T.X.K T.cm (upd B p ho) F2 Γ2 σ H2 vs rs → ∀ (j : Nat) (e : D), rs[j]? = some (.own e) → vs[j]? ≠ some (.ref p) := fun vs => by
          induction vs with
          | nil => intro rs hp j e he; cases rs with
            | nil => cases he
            | cons _ _ => exact hp.elim
          | cons w ws ih =>
            intro rs hp j e he hj
            cases rs with
            | nil => exact hp.elim
            | cons r rs =>
              cases j with
              | zero =>
                simp only [List.getElem?_cons_zero, Option.some.injEq] at he hj
                subst he; subst hj
                obtain ⟨a, ho', g1, _, g3, _⟩ := hp.1
                injection g1 with g1; subst g1
                rw [upd_same] at g3; cases g3
              | succ j => exact ih rs hp.2.2 j e (by simpa using he) (by simpa using hj)
        exact key vs rs hvs j e he hj
      · have key : ∀ (vs : List V) (rs : List Rf), IsPds T.X.K T.cm (upd B p ho) F2 Γ2 σ H2 vs rs → IsPds T.X.K T.cm B F2 Γ2 σ H2 vs rs := fun vs => by
          induction vs with
          | nil => intro rs hp; cases rs <;> exact hp
          | cons w ws ih =>
            intro rs hp
            cases rs with
            | nil => exact hp
            | cons r rs =>
              refine ⟨?_, hp.2.1, ih rs hp.2.2⟩
              cases r with
              | dat d => exact hp.1
              | slot i => exact hp.1
              | own d =>
                obtain ⟨a, ho', g1, g2, g3, g4⟩ := hp.1
                exact ⟨a, ho', g1, g2, Same.free (.up h2) g3, g4⟩
        exact key vs rs hvs⟩
theorem IsPd.monoH {H' : Hp} {v : V} {r : Rf} (h : IsPd T.X.K T.cm B F Γ σ H v r) (q : Same H H') : IsPd T.X.K T.cm B F Γ σ H' v r := by
  cases r with
  | dat d => exact h
  | slot i => exact h
  | own d =>
    obtain ⟨a, ho, h1, h2, h3, h4, h5, h6⟩ := h
    exact ⟨a, ho, h1, h2, h3, q _ _ h4, h5, h6⟩
theorem IsPds.monoH {H' : Hp} (q : Same H H') : ∀ {vs : List V} {rs : List Rf}, IsPds T.X.K T.cm B F Γ σ H vs rs → IsPds T.X.K T.cm B F Γ σ H' vs rs
  | [], [], h => h
  | _ :: _, _ :: _, h => ⟨h.1.monoH q, h.2.1, IsPds.monoH q h.2.2⟩
  | [], _ :: _, h => h.elim
  | _ :: _, [], h => h.elim
/-- the stores, from the left -/
def stAll : List Nat → List Rf → M Unit
  | [], [] => ret ()
  | i :: is, r :: rs => bnd (stR i r) fun _ => stAll is rs
  | _, _ => fail
def setAll (σ : St) : List Nat → List V → St
  | i :: is, v :: vs => setAll (σ.set i (some v)) is vs
  | _, _ => σ
theorem stAll_ok : ∀ {is : List Nat} {rs : List Rf} {vs : List V} {F : Hp} {Γ : List Sl} {σ : St} {H : Hp} {P : Unit → Hp → List Sl → St → Hp → Prop}, RunS T B F0 (stAll is rs) F Γ σ H P → (∀ i ∈ is, NoIo T i) → is.Nodup → (∀ i ∈ is, ∀ j, Rf.slot j ∈ rs → j ∉ is) →
    IsPds T.X.K T.cm B F Γ σ H vs rs → ∃ F' Γ', P () F' Γ' (setAll σ is vs) H
  | [], [], vs, F, Γ, σ, H, P, r, _, _, _, h => by
    cases vs with
    | nil => exact ⟨F, Γ, r.ret.2⟩
    | cons _ _ => exact h.elim
  | i :: is, r0 :: rs, [], F, Γ, σ, H, P, r, _, _, _, h => h.elim
  | i :: is, r0 :: rs, v :: vs, F, Γ, σ, H, P, r, hio, nd, hsl, h => by
    obtain ⟨h1, h2, h3⟩ := h
    have hi := hio i List.mem_cons_self
    have nd' := List.nodup_cons.mp nd
    have rest : ∀ {F' : Hp} {Γ' : List Sl}, RunS T B F0 (stAll is rs) F' Γ' (σ.set i (some v)) H P → IsPds T.X.K T.cm B F' Γ' (σ.set i (some v)) H vs rs → ∃ F' Γ', P () F' Γ' (setAll (σ.set i (some v)) is vs) H := fun r' h' =>
      stAll_ok r' (fun j hj => hio j (List.mem_cons_of_mem _ hj)) nd'.2 (fun j hj k hk hm => hsl j (List.mem_cons_of_mem _ hj) k (List.mem_cons_of_mem _ hk) (List.mem_cons_of_mem _ hm)) h'
    -- the others behind the store into i
    have keep : ∀ {F' : Hp} {Γ' : List Sl}, Same F F' → (∀ a, F a = none → F' a ≠ none → ∃ (j : Nat) (e : D), Γ[j]? = some (.own e) ∧ σ[j]? = some (some (.ref a))) → (∀ (j : Nat) (e : D), Γ'[j]? = some (.own e) → (j ≠ i ∧ Γ[j]? = some (.own e)) ∨ (j = i ∧ r0 = .own e)) →
        IsPds T.X.K T.cm B F' Γ' (σ.set i (some v)) H vs rs := fun {F' Γ'} q hF hΓ => by
      have key : ∀ (ws : List V) (qs : List Rf), (∀ d, r0 = .own d → ∀ (j : Nat) (e : D), qs[j]? = some (.own e) → ws[j]? ≠ some v) → (∀ j, Rf.slot j ∈ qs → j ≠ i) → IsPds T.X.K T.cm B F Γ σ H ws qs → IsPds T.X.K T.cm B F' Γ' (σ.set i (some v)) H ws qs := fun ws => by
        induction ws with
        | nil => intro qs _ _ hp; cases qs <;> exact hp
        | cons w ws ih =>
          intro qs hne hsl' hp
          cases qs with
          | nil => exact hp
          | cons r1 qs =>
            refine ⟨?_, hp.2.1, ih qs (fun d hd j e he => by have := hne d hd (j + 1) e (by simpa using he); simpa using this) (fun j hj => hsl' j (List.mem_cons_of_mem _ hj)) hp.2.2⟩
            cases r1 with
            | dat d => exact Is.mono q _ hp.1
            | slot j =>
              have hj := hsl' j List.mem_cons_self
              show (σ.set i (some v))[j]? = some (some w)
              rw [List.getElem?_set_ne (Ne.symm hj)]
              exact hp.1
            | own d =>
              obtain ⟨a, ho, g1, g2, g3, g4, g5, g6⟩ := hp.1
              refine ⟨a, ho, g1, ?_, g3, g4, g5.mono q, fun j e he hσ => ?_⟩
              · cases z : F' a with
                | none => rfl
                | some o =>
                  obtain ⟨j, e, k1, k2⟩ := hF a g2 (by rw [z]; simp)
                  exact absurd k2 (g6 j e k1)
              · rcases hΓ j e he with ⟨k1, k2⟩ | ⟨k1, k2⟩
                · rw [List.getElem?_set_ne (Ne.symm k1)] at hσ
                  exact g6 j e k2 hσ
                · subst k1
                  rcases get_set hσ with ⟨_, _, k3⟩ | ⟨k3, _⟩
                  · injection k3 with k3
                    exact hne e k2 0 d rfl (by simp [g1, ← k3])
                  · exact k3 rfl
      exact key vs rs h2 (fun j hj hji => hsl i List.mem_cons_self j (List.mem_cons_of_mem _ hj) (by subst hji; exact List.mem_cons_self)) h3
    cases r0 with
    | dat d =>
      have r1 := (r.bnd.gSet hi h1).2
      exact rest r1 (keep (.refl _) (fun a h0 h1 => absurd h0 h1) fun j e he => by
        rcases get_set he with ⟨_, _, k⟩ | ⟨k1, k2⟩
        · cases k
        · exact .inl ⟨k1, k2⟩)
    | own d =>
      have r1 := (r.bnd.gOwn hi h1).2
      exact rest r1 (keep (.refl _) (fun a h0 h1 => absurd h0 h1) fun j e he => by
        rcases get_set he with ⟨k0, _, k⟩ | ⟨k1, k2⟩
        · injection k with k; subst k; exact .inr ⟨k0, rfl⟩
        · exact .inl ⟨k1, k2⟩)
    | slot j =>
      obtain ⟨d, F', q, i1, S', r1, a, ho, rfl, g1, g2, g3⟩ := r.bnd.bnd.capSlot h1
      have r2 := (r1.gSet hi i1).2
      refine rest r2 (keep q (fun b h0 h1' => ?_) fun k e he => ?_)
      · subst g3
        by_cases hb : b = a
        · subst hb; exact ⟨j, d, g1, h1⟩
        · rw [upd_ne hb] at h1'; exact absurd h0 h1'
      · rcases get_set he with ⟨_, _, k⟩ | ⟨k1, k2⟩
        · cases k
        · rcases get_set k2 with ⟨_, _, k⟩ | ⟨k3, k4⟩
          · cases k
          · exact .inl ⟨k1, k4⟩
  | [], _ :: _, vs, F, Γ, σ, H, P, r, _, _, _, h => r.2.elim
  | _ :: _, [], vs, F, Γ, σ, H, P, r, _, _, _, h => r.2.elim
def noSlot (is : List Nat) (rs : List Rf) : Bool := rs.all fun r => match r with
  | .slot j => !is.contains j
  | _ => true
def sPar (is : List Nat) (c : M (List Rf)) : M Fl := bnd c fun rs => if noSlot is rs then bnd (stAll is rs) fun _ => ret .nx else fail
theorem par_weak {is : List Nat} {c : M (List Rf)} {D : Ends} {σ : St} {H : Hp} (hio : ∀ i ∈ is, NoIo T i) (nd : is.Nodup) (h : tSt T B F0 (sPar is c) D σ H) : tAR T c σ H fun vs H1 => vs.length = is.length ∧ ∀ H2, Same H1 H2 → D.nx (setAll σ is vs) H2 := by
  obtain ⟨F, Γ, r⟩ := h
  refine ⟨B, F0, F, Γ, r.bnd.run.mono fun rs F1 Γ1 H1 q1 S1 r1 vs hvs => ?_⟩
  by_cases hn : noSlot is rs = true
  · rw [if_pos hn] at r1
    have hsl : ∀ i ∈ is, ∀ j, Rf.slot j ∈ rs → j ∉ is := fun i _ j hj hm => by
      have := List.all_eq_true.mp hn _ hj
      simp only [Bool.not_eq_true', List.contains_eq_mem] at this
      exact absurd hm (by simpa using this)
    have hl : vs.length = is.length := by
      have l1 : ∀ (vs : List V) (rs : List Rf), IsPds T.X.K T.cm B F1 Γ1 σ H1 vs rs → vs.length = rs.length := fun vs => by
        induction vs with
        | nil => intro rs hp; cases rs with
          | nil => rfl
          | cons _ _ => exact hp.elim
        | cons v vs ih => intro rs hp; cases rs with
          | nil => exact hp.elim
          | cons r rs => simp [ih rs hp.2.2]
      have l2 : ∀ (is : List Nat) (rs : List Rf) (Γ : List Sl), is.length ≠ rs.length → (∃ p, stAll is rs Γ = some p) → ∃ e Γ', stAll is rs Γ = some (.error e, Γ') := fun is => by
        induction is with
        | nil => intro rs Γ hne ⟨p, hp⟩; cases rs with
          | nil => exact absurd rfl hne
          | cons _ _ => cases hp
        | cons i is ih => intro rs Γ hne ⟨p, hp⟩; cases rs with
          | nil => cases hp
          | cons r rs =>
            have hp : bnd (stR i r) (fun _ => stAll is rs) Γ = some p := hp
            show ∃ e Γ', bnd (stR i r) (fun _ => stAll is rs) Γ = some (.error e, Γ')
            unfold bnd at hp ⊢
            rcases e : stR i r Γ with _ | ⟨x | u, Γ'⟩
            · rw [e] at hp; cases hp
            · exact ⟨x, Γ', rfl⟩
            · rw [e] at hp
              exact ih rs Γ' (fun z => hne (by simp [z])) ⟨p, hp⟩
      have noErr : ∀ (is : List Nat) (rs : List Rf) (Γ : List Sl) (e : DL.D) (Γ' : List Sl), stAll is rs Γ ≠ some (.error e, Γ') := fun is => by
        induction is with
        | nil => intro rs Γ e Γ' hp; cases rs <;> cases hp
        | cons i is ih => intro rs Γ e Γ' hp; cases rs with
          | nil => cases hp
          | cons r rs =>
            have hp : bnd (stR i r) (fun _ => stAll is rs) Γ = some (.error e, Γ') := hp
            have st : ∀ (r : Rf) (Γ : List Sl) (e : DL.D) (Γ' : List Sl), stR i r Γ ≠ some (.error e, Γ') := fun r Γ e Γ' hq => by
              cases r with
              | dat d => simp only [stR, gSet] at hq; split at hq <;> cases hq
              | own d => simp only [stR, gOwn] at hq; split at hq <;> cases hq
              | slot j =>
                simp only [stR, bnd, capR] at hq
                split at hq
                · cases hq
                · rename_i e1; split at e1 <;> cases e1
                · rename_i e1; split at e1
                  · injection e1 with e1; injection e1 with e1 e2; subst e2
                    simp only [gSet] at hq; split at hq <;> cases hq
                  · cases e1
            unfold bnd at hp
            rcases e1 : stR i r Γ with _ | ⟨x | u, Γ1⟩
            · rw [e1] at hp; cases hp
            · exact st r Γ x Γ1 e1
            · rw [e1] at hp; exact ih rs Γ1 e Γ' hp
      rw [l1 vs rs hvs]
      by_cases hne : is.length = rs.length
      · exact hne.symm
      · exfalso
        have r2 := r1.bnd.2
        rcases e : stAll is rs Γ1 with _ | p
        · rw [e] at r2; exact r2
        · obtain ⟨x, Γ', h1⟩ := l2 is rs Γ1 hne ⟨p, e⟩
          exact noErr is rs Γ1 x Γ' h1
    refine ⟨hl, fun H2 q2 => ?_⟩
    have S2 : T.Sat B F0 F1 Γ1 σ H2 := S1.step ⟨q2, .refl _, S1.fh.trans q2, fun _ _ e => .inl e⟩
    obtain ⟨F', Γ', r2⟩ := stAll_ok (r1.bnd.step (.refl _) S2) hio nd hsl (hvs.monoH q2)
    exact r2.ret.2
  · rw [if_neg hn] at r1
    exact r1.2.elim
end
end DL

/-! DL5: parallel assignment, while, for, x += e. -/
namespace DL
open PySem L2

section
variable {T : Tx} {B F0 F : Hp} {Γ : List Sl} {σ : St} {H : Hp} {es : List Expr} {cr : M (List Rf)} {pos px py pz pt : Pos} {x y z : Str} {a b c : Expr} {kt k2 : Nat} {pt2 : Pos}
/-- two, three plain local names -/
theorem rs_par2 (i j : Nat) (hr : RR' T [a, b] cr) (hc : T.X.calm = true) (hN : T.X.N.Nodup) (hi : T.X.N[i]? = some x := by rfl) (hj : T.X.N[j]? = some y := by rfl) (hij : i ≠ j := by decide)
    (hx : T.X.env.scope.names.lookup x = some .local := by rfl) (hy : T.X.env.scope.names.lookup y = some .local := by rfl) (h0 : ∀ k ∈ [i, j], NoIo T k := by intro k hk; first | exact Or.inl rfl | (refine Or.inr ?_; simp only [List.mem_cons, List.not_mem_nil, or_false] at hk; omega))
    (hw : swappedStores [.Tuple [.Name x px, .Name y py] kt pt] (.Tuple [a, b] k2 pt2) T.X.env = pure (some [x, y]) := by rfl)
    (hs : swapsWithSole [.Tuple [.Name x px, .Name y py] kt pt] (.Tuple [a, b] k2 pt2) pos.line T.X.env = pure false := by rfl) :
    RS T (.Assign [.Tuple [.Name x px, .Name y py] kt pt] (.Tuple [a, b] k2 pt2) pos) (sPar [i, j] cr) := fun B F0 =>
  (ps_par hc hN hi hj hij hx hy hr hw hs).weak fun D σ H h => by
    obtain ⟨B1, F1, F, Γ, r⟩ := par_weak h0 (by simp [hij]) h
    refine ⟨B1, F1, F, Γ, r.mono fun rs F' Γ' H' q S p vs hvs => ?_⟩
    obtain ⟨hl, p⟩ := p vs hvs
    match vs, hl with
    | [v, w], _ => exact ⟨v, w, rfl, p _ (.refl _)⟩
theorem rs_par3 (i j l : Nat) (hr : RR' T [a, b, c] cr) (hc : T.X.calm = true) (hN : T.X.N.Nodup) (hi : T.X.N[i]? = some x := by rfl) (hj : T.X.N[j]? = some y := by rfl) (hl : T.X.N[l]? = some z := by rfl) (hij : i ≠ j := by decide) (hil : i ≠ l := by decide) (hjl : j ≠ l := by decide)
    (hx : T.X.env.scope.names.lookup x = some .local := by rfl) (hy : T.X.env.scope.names.lookup y = some .local := by rfl) (hz : T.X.env.scope.names.lookup z = some .local := by rfl) (h0 : ∀ k ∈ [i, j, l], NoIo T k := by intro k hk; first | exact Or.inl rfl | (refine Or.inr ?_; simp only [List.mem_cons, List.not_mem_nil, or_false] at hk; omega))
    (hw : swappedStores [.Tuple [.Name x px, .Name y py, .Name z pz] kt pt] (.Tuple [a, b, c] k2 pt2) T.X.env = pure (some [x, y, z]) := by rfl)
    (hs : swapsWithSole [.Tuple [.Name x px, .Name y py, .Name z pz] kt pt] (.Tuple [a, b, c] k2 pt2) pos.line T.X.env = pure false := by rfl) :
    RS T (.Assign [.Tuple [.Name x px, .Name y py, .Name z pz] kt pt] (.Tuple [a, b, c] k2 pt2) pos) (sPar [i, j, l] cr) := fun B F0 =>
  (ps_par3 hc hN hi hj hl hij hil hjl hx hy hz hr hw hs).weak fun D σ H h => by
    obtain ⟨B1, F1, F, Γ, r⟩ := par_weak h0 (by simp [hij, hil, hjl]) h
    refine ⟨B1, F1, F, Γ, r.mono fun rs F' Γ' H' q S p vs hvs => ?_⟩
    obtain ⟨hl, p⟩ := p vs hvs
    match vs, hl with
    | [u, v, w], _ => exact ⟨u, v, w, rfl, p _ (.refl _)⟩
/-- names of any kind: the tuple is made and taken apart -/
def gNm : List Nat → TGs
  | [] => gNil
  | i :: is => gCons (gName i) (gNm is)
theorem gNm_ok : ∀ {is : List Nat} {vs : List V} {σ : St} {H : Hp} {Q : St → Hp → Prop}, vs.length = is.length → Q (setAll σ is vs) H → gNm is vs σ H Q
  | [], [], σ, H, Q, _, h => ⟨rfl, h⟩
  | i :: is, v :: vs, σ, H, Q, hl, h => ⟨v, vs, rfl, gNm_ok (by simpa using hl) h⟩
  | [], _ :: _, _, _, _, hl, _ => by cases hl
  | _ :: _, [], _, _, _, hl, _ => by cases hl
theorem nm_nil {X : Cx} : PGs X [] (gNm []) := pgs_nil
theorem nm_cons {X : Cx} {ts : List Expr} {is : List Nat} (i : Nat) (h : PGs X ts (gNm is)) (hN : X.N.Nodup) (hi : X.N[i]? = some x := by rfl) (hx : Loc X.env.scope x := by first | exact Or.inl rfl | exact Or.inr rfl)
    (hf : X.fn x = true ∨ X.env.scope.names.lookup x = some .local := by first | exact .inl rfl | exact .inr rfl | assumption) (hs : (assignEach (.Name x px :: ts) X.env).map (·.2) = assign (.Name x px) X.env :: (assignEach ts X.env).map (·.2) := by rfl) : PGs X (.Name x px :: ts) (gNm (i :: is)) :=
  pgs_cons (pg_name hN hi hx hf) h hs
theorem rs_parG {is : List Nat} {ts : List Expr} {vs : List Expr} {n : Nat} (hr : RR' T vs cr) (hg : PGs T.X ts (gNm is)) (hc : T.X.calm = true) (hn : (assignEach ts T.X.env).length = n := by rfl) (hst : (assignEach ts T.X.env).findIdx? (·.1) = none := by rfl) (hni : is.length = n := by rfl) (nd : is.Nodup := by decide) (hz : is.length ≤ 64 := by decide)
    (h0 : ∀ k ∈ is, NoIo T k := by intro k hk; first | exact Or.inl rfl | (refine Or.inr ?_; simp only [List.mem_cons, List.not_mem_nil, or_false] at hk; omega))
    (hs : swapsWithSole [.Tuple ts kt pt] (.Tuple vs k2 pt2) pos.line T.X.env = pure false := by rfl) (hw : swappedStores [.Tuple ts kt pt] (.Tuple vs k2 pt2) T.X.env = pure none := by rfl)
    (h1 : (assignEach [.Tuple ts kt pt] T.X.env).map (·.2) = [assign (.Tuple ts kt pt) T.X.env] := by rfl) :
    RS T (.Assign [.Tuple ts kt pt] (.Tuple vs k2 pt2) pos) (sPar is cr) := fun B F0 =>
  (ps_asg (pe_tup hr) (pg_tup hc hg hn hst) hs hw h1).weak fun D σ H h => by
    obtain ⟨B1, F1, F, Γ, r⟩ := par_weak h0 nd h
    refine ⟨B1, F1, F, Γ, r.mono fun rs F' Γ' H' q S p vs hvs => ?_⟩
    obtain ⟨hl, p⟩ := p vs hvs
    refine ⟨by rw [hl]; exact le_big (by unfold big; omega), fun a ha => ⟨a, vs, rfl, .inl (.inl upd_same), by rw [hl, hni], gNm_ok hl (p _ (.up ha))⟩⟩
end

/-! ### while -/
def runW (c : M Bool) (b : M Fl) : Nat → M Fl
  | 0 => fail
  | n + 1 => bnd c fun k => if k then bnd b fun f => match f with
      | .nx => runW c b n
      | .ct => runW c b n
      | .bk => ret .nx
      | .rt r => ret (.rt r)
    else ret .nx
open Classical in
noncomputable def sWhile (c : M Bool) (b : M Fl) : M Fl := fun Γ => if h : ∃ n, runW c b n Γ ≠ none then runW c b h.choose Γ else none
theorem runW_le {c : M Bool} {b : M Fl} : ∀ {n : Nat} {Γ : List Sl} {p : Except D Fl × List Sl} {m : Nat}, runW c b n Γ = some p → n ≤ m → runW c b m Γ = some p := by
  intro n
  induction n with
  | zero => intro Γ p m h; cases h
  | succ n ih =>
    intro Γ p m h hm
    obtain ⟨m, rfl⟩ : ∃ k, m = k + 1 := ⟨m - 1, by omega⟩
    simp only [runW] at h ⊢
    rcases e : c Γ with _ | ⟨x | k, Γ1⟩
    · rw [bnd_none e] at h; cases h
    · rw [bnd_err e] at h ⊢; exact h
    · rw [bnd_ok e] at h ⊢
      cases k with
      | false => exact h
      | true =>
        simp only [if_true] at h ⊢
        rcases e2 : b Γ1 with _ | ⟨x | f, Γ2⟩
        · rw [bnd_none e2] at h; cases h
        · rw [bnd_err e2] at h ⊢; exact h
        · rw [bnd_ok e2] at h ⊢
          cases f with
          | nx => exact ih h (by omega)
          | ct => exact ih h (by omega)
          | bk => exact h
          | rt r => exact h
theorem sWhile_eq {c : M Bool} {b : M Fl} {n : Nat} {Γ : List Sl} {p : Except D Fl × List Sl} (h : runW c b n Γ = some p) : sWhile c b Γ = some p := by
  have hx : ∃ n, runW c b n Γ ≠ none := ⟨n, by rw [h]; simp⟩
  unfold sWhile
  rw [dif_pos hx]
  have h2 := hx.choose_spec
  rcases e : runW c b hx.choose Γ with _ | q
  · exact absurd e h2
  · have a1 := runW_le e (Nat.le_max_left _ n)
    have a2 := runW_le h (Nat.le_max_right hx.choose n)
    rw [a1] at a2
    exact a2
theorem sWhile_some {c : M Bool} {b : M Fl} {Γ : List Sl} {p : Except D Fl × List Sl} (h : sWhile c b Γ = some p) : ∃ n, runW c b n Γ = some p := by
  unfold sWhile at h
  split at h
  · exact ⟨_, h⟩
  · cases h
/-- one turn -/
theorem sWhile_step {c : M Bool} {b : M Fl} {Γ Γ1 Γ2 : List Sl} {f : Fl} (h1 : c Γ = some (.ok true, Γ1)) (h2 : b Γ1 = some (.ok f, Γ2)) (hf : f = .nx ∨ f = .ct) : sWhile c b Γ = sWhile c b Γ2 := by
  have key : ∀ n, runW c b (n + 1) Γ = runW c b n Γ2 := fun n => by
    simp only [runW]
    rw [bnd_ok h1]
    simp only [if_true]
    rw [bnd_ok h2]
    rcases hf with rfl | rfl <;> rfl
  rcases e : sWhile c b Γ2 with _ | p
  · rcases e2 : sWhile c b Γ with _ | q
    · rfl
    · obtain ⟨n, hn⟩ := sWhile_some e2
      cases n with
      | zero => cases hn
      | succ n => rw [key] at hn; rw [sWhile_eq hn] at e; cases e
  · obtain ⟨n, hn⟩ := sWhile_some e
    exact sWhile_eq (n := n + 1) (by rw [key]; exact hn)
theorem sWhile_end {c : M Bool} {b : M Fl} {Γ Γ1 : List Sl} (h1 : c Γ = some (.ok false, Γ1)) : sWhile c b Γ = some (.ok .nx, Γ1) := sWhile_eq (n := 1) (by simp only [runW]; rw [bnd_ok h1]; rfl)
section
variable {T : Tx} {c : Expr} {body : List Stmt} {tc : M Bool} {cb : M Fl} {pos : Pos}
theorem rs_while (hp : PassesOwn (model T.X.prog T.X.w) T.X.A T.X.env T.X.xe) (hc : RT T c tc) (hb : RSs T body cb) : RS T (.While c body [] pos) (sWhile tc cb) := fun B F0 =>
  (ps_while hp (hc B F0) (hb B F0)).weak fun D σ H ⟨F, Γ, S, r⟩ => by
    have ⟨n, hn⟩ : ∃ n, runW tc cb n Γ = sWhile tc cb Γ := by
      rcases e : sWhile tc cb Γ with _ | p
      · rw [e] at r; exact r.elim
      · exact sWhile_some e
    rw [← hn] at r
    refine ⟨fun m σ H => ∃ F Γ, RunS T B F0 (runW tc cb m) F Γ σ H (fin T B D), ⟨n, F, Γ, S, r⟩, ?_⟩
    rintro m σ H ⟨F, Γ, r⟩
    cases m with
    | zero => exact r.2.elim
    | succ m =>
      simp only [runW] at r
      refine ⟨F, Γ, r.bnd.run.mono fun k F1 Γ1 H1 q1 S1 r1 => ?_⟩
      cases k with
      | false =>
        rw [if_neg (by simp)]
        rw [if_neg (by simp)] at r1
        exact r1.ret.2
      | true =>
        rw [if_pos rfl]
        rw [if_pos rfl] at r1
        refine ⟨fun σ' H' => ∃ F Γ, RunS T B F0 (runW tc cb m) F Γ σ' H' (fin T B D), fun σ' H' h => ⟨m, Nat.lt_succ_self _, h⟩, F1, Γ1, r1.bnd.mono fun f F2 Γ2 σ2 H2 q2 S2 r2 => ?_⟩
        cases f with
        | nx => exact ⟨F2, Γ2, r2⟩
        | ct => exact ⟨F2, Γ2, r2⟩
        | bk => exact r2.ret.2
        | rt r => exact r2.ret.2
end

/-! ### for -/
/-- what stands at J's turns -/
def Walk (T : Tx) (J : It) (F : Hp) (ds : List D) : Prop := ∀ (i : Nat) (F' H' : Hp), Same F F' → Same F' H' →
  (∀ d : D, ds[i]? = some d → J.go i H' ∧ ∀ x H2, J.yld i H' x H2 → ∃ F2, Step F' H' F2 H2 ∧ T.Is F2 x d) ∧ (i = ds.length → J.stop i H')
def tI (T : Tx) (B F0 : Hp) (c : M (List D)) : TI := fun σ H R => ∃ F Γ, Run T B F0 c F Γ σ H fun ds F' Γ' H' => ∀ J, Walk T J F' ds → R J H'
def RI (T : Tx) (tg iter : Expr) (c : M (List D)) : Prop := ∀ B F0, PI T.X tg iter (tI T B F0 c)
def loopF (g : D → M Unit) (b : M Fl) : List D → M Fl
  | [] => ret .nx
  | d :: ds => bnd (g d) fun _ => bnd b fun f => match f with
    | .nx => loopF g b ds
    | .ct => loopF g b ds
    | .bk => ret .nx
    | .rt r => ret (.rt r)
def sFor (c : M (List D)) (g : D → M Unit) (b : M Fl) : M Fl := bnd c (loopF g b)
section
variable {T : Tx} {tg iter : Expr} {body : List Stmt} {ci : M (List D)} {g : D → M Unit} {cb : M Fl} {pos : Pos}
theorem rs_for (hp : PassesOwn (model T.X.prog T.X.w) T.X.A T.X.env T.X.xe) (hc : T.X.calm = true) (hi : RI T tg iter ci) (hg : RG T tg g) (hb : RSs T body cb)
    (hs : ∀ x, foldedSetIterable iter T.X.env x = pure x := by intro _; rfl) : RS T (.For tg iter body [] pos) (sFor ci g cb) := fun B F0 =>
  (ps_for hp hc (hi B F0) (hg B F0) (hb B F0) hs).weak fun D σ H ⟨F, Γ, r⟩ => ⟨F, Γ, r.bnd.run.mono fun ds F1 Γ1 H1 q1 S1 r1 J hJ => by
    refine ⟨fun i m σ H => ∃ F Γ, Same F1 F ∧ m = ds.length - i ∧ i ≤ ds.length ∧ RunS T B F0 (loopF g cb (ds.drop i)) F Γ σ H (fin T B D), ⟨ds.length, F1, Γ1, .refl _, by simp, Nat.zero_le _, by simpa using r1⟩, ?_⟩
    rintro i m σ H ⟨F, Γ, q, rfl, hi, r⟩
    obtain ⟨w1, w2⟩ := hJ i F H q r.1.fh
    by_cases hlt : i < ds.length
    · obtain ⟨go, yl⟩ := w1 ds[i] (by simp [hlt])
      rw [List.drop_eq_getElem_cons hlt] at r
      refine .inr ⟨go, fun σ' H' => ∃ F Γ, Same F1 F ∧ RunS T B F0 (loopF g cb (ds.drop (i + 1))) F Γ σ' H' (fin T B D), fun σ' H' ⟨F', Γ', q', r'⟩ => ⟨ds.length - (i + 1), by omega, F', Γ', q', rfl, hlt, r'⟩, fun x H2 hy => ?_⟩
      obtain ⟨F2, t, ix⟩ := yl x H2 hy
      refine ⟨F2, Γ, _, ix, ((r.step t.ff (r.1.step t)).bnd).mono fun _ F3 Γ3 σ3 H3 q3 S3 r3 => ⟨F3, Γ3, r3.bnd.mono fun f F4 Γ4 σ4 H4 q4 S4 r4 => ?_⟩⟩
      cases f with
      | nx => exact ⟨F4, Γ4, ((q.trans t.ff).trans q3).trans q4, r4⟩
      | ct => exact ⟨F4, Γ4, ((q.trans t.ff).trans q3).trans q4, r4⟩
      | bk => exact r4.ret.2
      | rt r => exact r4.ret.2
    · have e : ds.drop i = [] := List.drop_eq_nil_of_le (by omega)
      rw [e] at r
      exact .inl ⟨w2 (by omega), r.ret.2⟩⟩
end

/-! ### what is walked -/
def strD (x : Str) : List D := x.cps.toList.map fun c => .str ⟨#[c]⟩
def seqI : D → Option (List D)
  | .lst xs => some xs
  | .tup xs => some xs
  | .str x => some (strD x)
  | _ => none
def ofO {α : Type} : Option α → M α
  | some a => ret a
  | none => fail
def sIter (c : M Rf) : M (List D) := bnd (cap c) fun d => ofO (seqI d)
section
variable {T : Tx} {tg e a b c3 : Expr} {ca : M Rf} {cs : M (List D)} {p pos : Pos} {F H : Hp}
theorem step_same {F H : Hp} (h : Same F H) : Step F H F H := .refl h
theorem walk_lst {F : Hp} {a : Addr} {vs : List V} {ds : List D} (h : SqL T.X.K F a vs) (hs : IsAll T.X.K T.cm F vs ds) : Walk T (Itl T.X.K a) F ds := fun i F' H' q fh => by
  have hr : SqL T.X.K H' a vs := sql_same fh (sql_same q h)
  have hl := hs.length
  refine ⟨fun d hd => ?_, fun hle => ⟨vs, hr, by omega⟩⟩
  obtain ⟨v, h1, h2⟩ := hs.get hd
  refine ⟨⟨vs, v, hr, h1⟩, fun x H2 ⟨e, hy⟩ => ?_⟩
  subst e
  have hx := hy vs hr
  rw [h1] at hx
  cases hx
  exact ⟨F', .refl fh, h2.mono q _⟩
theorem walk_tup {F : Hp} {a : Addr} {vs : List V} {ds : List D} (h : SqT T.X.K F a vs) (hs : IsAll T.X.K T.cm F vs ds) : Walk T (Itt T.X.K a) F ds := fun i F' H' q fh => by
  have hr : SqT T.X.K H' a vs := sqt_same fh (sqt_same q h)
  have hl := hs.length
  refine ⟨fun d hd => ?_, fun hle => ⟨vs, hr, by omega⟩⟩
  obtain ⟨v, h1, h2⟩ := hs.get hd
  refine ⟨⟨vs, v, hr, h1⟩, fun x H2 ⟨e, hy⟩ => ?_⟩
  subst e
  have hx := hy vs hr
  rw [h1] at hx
  cases hx
  exact ⟨F', .refl fh, h2.mono q _⟩
theorem walk_str {F : Hp} {x : Str} : Walk T (Its x) F (strD x) := fun i F' H' q fh => by
  have hl : (strD x).length = x.cps.size := by simp [strD]
  refine ⟨fun d hd => ?_, fun hle => by show x.cps.size ≤ i; omega⟩
  have hi : i < x.cps.size := by rw [← hl]; exact lt_of_get hd
  refine ⟨hi, fun v H2 ⟨e, c, hc, hv⟩ => ?_⟩
  subst e; subst hv
  have : d = .str ⟨#[c]⟩ := by
    simp only [strD, List.getElem?_map, Array.getElem?_toList, hc, Option.map_some, Option.some.injEq] at hd
    exact hd.symm
  subst this
  exact ⟨F', .refl fh, .str _⟩
theorem ofO_run {α : Type} {o : Option α} {B F0 F : Hp} {Γ : List Sl} {σ : St} {H : Hp} {P : α → Hp → List Sl → Hp → Prop} (r : Run T B F0 (ofO o) F Γ σ H P) : T.Sat B F0 F Γ σ H ∧ ∃ a, o = some a ∧ P a F Γ H := by
  cases o with
  | none => exact r.2.elim
  | some a => exact ⟨r.1, a, rfl, r.ret.2⟩
theorem ri_seq (h : RE T e ca) : RI T tg e (sIter ca) := fun B F0 => ⟨fun pins s σ H R I ⟨F, Γ, S, r⟩ => by
  have hd := rd_of h B F0
  have r2 := (Run.bnd (T := T) (B := B) (F0 := F0) (c := cap ca) (k := fun d => ofO (seqI d)) (P := fun ds F' Γ' H' => ∀ J, Walk T J F' ds → R J H') ⟨S, r⟩).2
  rcases q : cap ca Γ with _ | ⟨x | d, Γ'⟩
  · rw [q] at r2; exact r2.elim
  · refine (pi_list hd).run pins s σ H R I ⟨F, Γ, S, ?_⟩
    rw [q] at r2 ⊢
    exact r2
  · rw [q] at r2
    have go : ∀ F' H', Same F F' → T.Sat B F0 F' Γ' σ H' → ∃ ds, seqI d = some ds ∧ ∀ J, Walk T J F' ds → R J H' := fun F' H' q' S' => by
      have r3 : Run T B F0 (ofO (seqI d)) F' Γ' σ H' fun ds F' Γ' H' => ∀ J, Walk T J F' ds → R J H' := r2 F' H' q' S'
      obtain ⟨_, ds, e, k⟩ := ofO_run r3
      exact ⟨ds, e, k⟩
    cases d with
    | lst xs =>
      refine (pi_list hd).run pins s σ H R I ⟨F, Γ, S, ?_⟩
      rw [q]
      intro F' H' q' S' v hv
      obtain ⟨ds, e, k⟩ := go F' H' q' S'
      cases e
      have hv : T.Is F' v (.lst xs) := hv
      cases hv with
      | klst h1 h2 => exact ⟨_, rfl, ⟨_, sql_same S'.fh h1⟩, k _ (walk_lst h1 h2)⟩
      | obj h1 h2 => cases h2 with
        | lst h3 => exact ⟨_, rfl, ⟨_, .inl (.of (S'.fh _ _ (h1.flat rfl)))⟩, k _ (walk_lst (.inl (.of (h1.flat rfl))) h3)⟩
    | tup xs =>
      refine (pi_tup hd).run pins s σ H R I ⟨F, Γ, S, ?_⟩
      rw [q]
      intro F' H' q' S' v hv
      obtain ⟨ds, e, k⟩ := go F' H' q' S'
      cases e
      have hv : T.Is F' v (.tup xs) := hv
      cases hv with
      | ktup h1 h2 => exact ⟨_, rfl, ⟨_, .of (S'.fh _ _ h1)⟩, k _ (walk_tup (.of h1) h2)⟩
      | obj h1 h2 => cases h2
    | str z =>
      refine (pi_str hd).run pins s σ H R I ⟨F, Γ, S, ?_⟩
      rw [q]
      intro F' H' q' S' v hv
      obtain ⟨ds, e, k⟩ := go F' H' q' S'
      cases e
      exact ⟨z, IsT.str (H := H') (.inl hv), k _ walk_str⟩
    | _ =>
      refine (pi_list hd).run pins s σ H R I ⟨F, Γ, S, ?_⟩
      rw [q]
      intro F' H' q' S'
      obtain ⟨ds, e, k⟩ := go F' H' q' S'
      cases e⟩
/-- range -/
def rgD (lo : Int) (n : Nat) : List D := (List.range n).map fun i => .int (lo + (i : Nat))
theorem walk_rng {F : Hp} {lo : Int} {n : Nat} : Walk T (Itr lo n) F (rgD lo n) := fun i F' H' q fh => by
  have hl : (rgD lo n).length = n := by simp [rgD]
  refine ⟨fun d hd => ?_, fun hle => by show n ≤ i; omega⟩
  have hi : i < n := by rw [← hl]; exact lt_of_get hd
  refine ⟨hi, fun v H2 ⟨e, hv⟩ => ?_⟩
  subst e; subst hv
  have : d = .int (lo + (i : Nat)) := by
    simp only [rgD, List.getElem?_map, List.getElem?_range hi, Option.map_some, Option.some.injEq] at hd
    exact hd.symm
  subst this
  exact ⟨F', .refl fh, .int _⟩
abbrev sm62 (i : Int) : Bool := decide (-4611686018427387904 ≤ i) && decide (i < 4611686018427387904)
def range1 : List D → Option (List D)
  | [.int j] => if sm62 j then some (rgD 0 j.toNat) else none
  | _ => none
def range2 : List D → Option (List D)
  | [.int i, .int j] => if sm62 i && sm62 j then some (rgD i (j - i).toNat) else none
  | _ => none
def sRng (f : List D → Option (List D)) (c : M (List D)) : M (List D) := bnd c fun ds => ofO (f ds)
theorem ri_range1 (ha : RA T [a] cs) (hm : T.X.mg "range" = none) (hg : Gl T.X "range" := by rfl) (hs : starEach [a] T.X.env = [(false, eval a T.X.env)] := by rfl) : RI T tg (.Call (.Name "range" p) [a] [] pos) (sRng range1 cs) := fun B F0 =>
  ⟨fun pins s σ H R I ⟨F, Γ, r⟩ => (pi_range1 hg hm (ha B F0) hs).run pins s σ H R I ⟨F, Γ, r.bnd.mono fun ds F1 Γ1 H1 q1 S1 r1 vs hvs => by
    obtain ⟨_, ls, e, k⟩ := ofO_run r1
    match ds, hvs, e with
    | [.int j], .cons h .nil, e =>
      simp only [range1] at e
      split at e
      · rename_i hj
        cases e
        simp only [sm62, Bool.and_eq_true, decide_eq_true_eq] at hj
        exact ⟨j, by rw [IsT.int (H := H1) (.inl h)], by omega, by omega, k _ walk_rng⟩
      · cases e⟩⟩
theorem ri_range2 (ha : RA T [a, b] cs) (hm : T.X.mg "range" = none) (hg : Gl T.X "range" := by rfl) (hs : starEach [a, b] T.X.env = [(false, eval a T.X.env), (false, eval b T.X.env)] := by rfl) (hs2 : starEach [b] T.X.env = [(false, eval b T.X.env)] := by rfl) :
    RI T tg (.Call (.Name "range" p) [a, b] [] pos) (sRng range2 cs) := fun B F0 =>
  ⟨fun pins s σ H R I ⟨F, Γ, r⟩ => (pi_range2 hg hm (ha B F0) hs hs2).run pins s σ H R I ⟨F, Γ, r.bnd.mono fun ds F1 Γ1 H1 q1 S1 r1 vs hvs => by
    obtain ⟨_, ls, e, k⟩ := ofO_run r1
    match ds, hvs, e with
    | [.int i, .int j], .cons h (.cons h' .nil), e =>
      simp only [range2] at e
      split at e
      · rename_i hj
        cases e
        simp only [sm62, Bool.and_eq_true, decide_eq_true_eq] at hj
        exact ⟨i, j, by rw [IsT.int (H := H1) (.inl h), IsT.int (H := H1) (.inl h')], by omega, k _ walk_rng⟩
      · cases e⟩⟩
end

/-! ### x += e -/
def ipD (f : Int → Int → Int) (i : Nat) (c : M Rf) : M Fl := fun Γ => match Γ[i]? with
  | some (.dat (.int a)) => bnd (opnd c) (fun r => match r with
    | .dat (.int b) => bnd (gSet i (.int (f a b))) fun _ => ret .nx
    | _ => fail) Γ
  | _ => none
section
variable {T : Tx} {e : Expr} {ca : M Rf} {pos pos' : Pos} {x : Str} {op : Operator} {f : Int → Int → Int}
theorem rs_aug (i : Nat) (h : RE T e ca) (ho : PIp T.X op (ipI f)) (hN : T.X.N.Nodup) (hi : T.X.N[i]? = some x := by rfl) (hx : Loc T.X.env.scope x := by first | exact Or.inl rfl | exact Or.inr rfl) (hio : NoIo T i := by first | exact Or.inl rfl | exact Or.inr (by decide))
    (hf : T.X.fn x = true ∨ T.X.env.scope.names.lookup x = some .local := by first | exact .inl rfl | exact .inr rfl | assumption) : RS T (.AugAssign (.Name x pos') op e pos) (ipD f i ca) := fun B F0 =>
  (ps_aug hN hi hx (re_opnd h B F0) ho hf).weak fun D σ H ⟨F, Γ, r⟩ => by
    rcases q : Γ[i]? with _ | sl
    · have r2 := r.2
      simp only [ipD, q] at r2
    · cases sl with
      | un => have r2 := r.2; simp only [ipD, q] at r2
      | own d => have r2 := r.2; simp only [ipD, q] at r2
      | dat d =>
        cases d with
        | int j =>
          obtain ⟨v, h1, h2⟩ := r.1.dt i _ q
          have r2 : RunS T B F0 (bnd (opnd ca) (fun r => match r with
            | .dat (.int b) => bnd (gSet i (.int (f j b))) fun _ => ret .nx
            | _ => fail)) F Γ σ H (fin T B D) := ⟨r.1, by have r3 := r.2; simp only [ipD, q] at r3; exact r3⟩
          refine ⟨v, h1, F, Γ, r2.bnd.run.mono fun r0 F1 Γ1 H1 q1 S1 r1 w hw => ?_⟩
          have ev := IsT.int (H := H) (.inl h2)
          split at r1
          · have ew := IsT.int (H := H1) (.inl hw)
            refine ⟨j, _, ev, ew, ?_⟩
            exact (r1.bnd.gSet hio (.int _)).2.ret.2
          · exact r1.2.elim
        | _ => have r2 := r.2; simp only [ipD, q] at r2
end
end DL

/-! DL6: defs and their calls. -/
namespace DL
open PySem L2 PyProof.Rows

/-- what a def answers -/
abbrev Ans := Except D Rf
/-- a def as a function of data -/
abbrev Fn := List D → Option Ans
/-- a def that is lent the object of its first argument -/
abbrev Fm := D → List D → Option (Ans × D)

def ResX (K : PySem.W.Frag) (cm : Nat → Addr) (F H : Hp) (Q : VK) (E : XK) : Ans → Prop
  | .ok (.dat d) => ∀ v F' H', Step F H F' H' → Is K cm F' v d → Q v H'
  | .ok (.own d) => ∀ a ho F' H', Step F H F' H' → H a = none → F' a = none → H' a = some ho → OwnIs K cm F' ho d → Q (.ref a) H'
  | .ok (.slot _) => False
  | .error e => ∀ F' H' cls dx, Step F H F' H' → IsExc K cm F' cls dx e → E cls dx H'
def spD (K : PySem.W.Frag) (cm : Nat → Addr) (n : Nat) (φ : Fn) : Sp := fun vs H Q E => ∃ F ds r, vs.length = n ∧ Same F H ∧ IsAll K cm F vs ds ∧ φ ds = some r ∧ ResX K cm F H Q E r
/-- the lent object at a is changed, what else stood stands -/
structure StepM (a : Addr) (F H F' H' : Hp) : Prop where
  hh : ∀ b o, b ≠ a → H b = some o → H' b = some o
  ff : Same F F'
  fh : Same F' H'
  nw : ∀ p o, F' p = some o → F p = some o ∨ H p = none
def ResM (K : PySem.W.Frag) (cm : Nat → Addr) (a : Addr) (F H : Hp) (Q : VK) (E : XK) (d1 : D) : Ans → Prop
  | .ok (.dat d) => ∀ v ho1 F' H', StepM a F H F' H' → H' a = some ho1 → OwnIs K cm F' ho1 d1 → Is K cm F' v d → Q v H'
  | .ok (.own d) => ∀ b ho ho1 F' H', StepM a F H F' H' → H' a = some ho1 → OwnIs K cm F' ho1 d1 → H b = none → F' b = none → H' b = some ho → OwnIs K cm F' ho d → Q (.ref b) H'
  | .ok (.slot _) => False
  | .error e => ∀ ho1 F' H' cls dx, StepM a F H F' H' → H' a = some ho1 → OwnIs K cm F' ho1 d1 → IsExc K cm F' cls dx e → E cls dx H'
def spM (K : PySem.W.Frag) (cm : Nat → Addr) (n : Nat) (φ : Fm) : Sp := fun vs H Q E => ∃ F a ho d0 ws ds r d1, vs = .ref a :: ws ∧ vs.length = n ∧ Same F H ∧ F a = none ∧ H a = some ho ∧ OwnIs K cm F ho d0 ∧ IsAll K cm F ws ds ∧ φ d0 ds = some (r, d1) ∧ ResM K cm a F H Q E d1 r

/-! ### defs that run where no repr is under way -/
structure FnG (P : Program) (w : World) (K : PySem.W.Frag) (mg : Str → Option Value) (base : Heap) (k : Nat) (f : Addr) (fd : FuncData) (ps : List Str) (sp : Sp) : Prop where
  len : ∀ vs H Q E, sp vs H Q E → vs.length = ps.length
  run : ∀ (A : Around) (outer : List Env) (s : Shared) (H : Hp) (args : Args) (us : List Value) (vs : List V) (Q : VK) (E : XK), Room k A → A.guards = some [] → Env0 P w K mg base A outer s H → BindsTo s fd args (ps.zip us) → Vals vs us → sp vs H Q E →
    codeAny (model P w) A (.call (.ref f) args) (CR (L2.CX P w) outer P w H s Q E) s
theorem FnG.mono {P : Program} {w : World} {K : PySem.W.Frag} {mg : Str → Option Value} {base : Heap} {j k : Nat} {f : Addr} {fd : FuncData} {ps : List Str} {sp : Sp} (F : FnG P w K mg base j f fd ps sp) (h : j ≤ k) : FnG P w K mg base k f fd ps sp :=
  ⟨F.len, fun A outer s H args us vs Q E hr => F.run A outer s H args us vs Q E (hr.mono h)⟩
theorem grd_deeper {A : Around} {env : Env} (h : A.guards = some []) : (A.deeper env).guards = some [] := h
theorem grd_in1 {A : Around} (h : A.guards = some []) : A.in1.guards = some [] := h
section
variable {P : Program} {w : World} {K : PySem.W.Frag} {mg : Str → Option Value} {base : Heap}
theorem fn_ofG {k : Nat} {f : Addr} {name qual : Str} {params : Arguments} {body : List Stmt} {scope : Scope} {dV kV doc pm cdv ct oc : Value} {an od : Option Addr}
    {osl : Array (Option Value)} {N ps : List Str} {sp : Sp} (lk : K.lookup f = some ⟨oc, od, .func (PySem.W.fnOf name qual params body scope dV kV doc pm an cdv ct), osl⟩) (hcd : PySem.W.codeIn K cdv qual = true) (S : FnScope N ps scope)
    (len : ∀ vs H Q E, sp vs H Q E → vs.length = ps.length)
    (hbody : ∀ (A : Around) (outer : List Env) (s : Shared) (H : Hp) (vs : List V) (Q : VK) (E : XK), Room k (A.deeper (envOfC qual scope s.heap.objs.size f cdv)) → A.guards = some [] → sp vs H Q E →
      ∃ t, PSs (cxOf (L2.CX P w) P w K mg base N qual scope f cdv A outer s H E) body t ∧ t { nx := fun _ H' => Q .non H', rt := Q } (L2.start N vs) H) :
    FnG P w K mg base (k + 1) f (PySem.W.fnOf name qual params body scope dV kV doc pm an cdv ct) ps sp := by
  refine ⟨len, fun A outer s H args us vs Q E hr hgd e0 hb r hsp => ?_⟩
  have hl := len _ _ _ _ hsp
  have KX : K.In s.heap := e0.mod.kin.keeps fun b o e => (e0.bs b o e).1
  have lim : s.heap.NoLimit := e0.mod.nolimit.keeps fun b o e => (e0.bs b o e).1
  have hkind : ∀ y ∈ ps.zip us, scope.names.lookup y.1 = some .local ∨ (scope.names.lookup y.1 = some .cell ∧ ((cellsFrom (s.heap.objs.size + 1) scope.names []).lookup y.1).isSome = true) := fun ⟨n, v⟩ hy => by
    rcases S.par n (List.of_mem_zip hy).1 with q | q
    · exact .inl q
    · exact .inr ⟨q, PySem.W.cellsFrom_some _ _ _ (.inl q)⟩
  refine codeAny_call_function hr.depth (KX _ _ lk) rfl S.co S.gen rfl (PySem.W.codeRec_of KX hcd) (hb _ _ _ _ ?_)
  refine wpAny_newFunctionEnv_cells S.kind hkind fun env he s1 x => ?_
  subst he
  refine ⟨lim.keeps x.toInCall.keep, codeAny_func ?_⟩
  obtain ⟨t, ht, hq⟩ := hbody A outer s H vs Q E (hr.deeper _) hgd hsp
  have I : Inv (cxOf (L2.CX P w) P w K mg base N qual scope f cdv A outer s H E) [] (L2.start N vs) H s1 := inv_start S hr.hd e0 hl r x
  refine wpAny_mono (ht.run [] s1 (L2.start N vs) H _ I hq) (fun fl s' hs => ?_) fun e s' hs => hs
  have fin : ∀ {σ' : L2.St} {H' : Hp} {v : V} {u : Value}, Inv (cxOf (L2.CX P w) P w K mg base N qual scope f cdv A outer s H E) [] σ' H' s' → RelV v u → Q v H' → CE outer P w H s Q u s' :=
    fun {σ' H' v u} J rv q => ⟨v, H', J.os, J.bare, J.base, J.hok, rv, q⟩
  cases fl with
  | ret u => obtain ⟨v, σ', H', J, rv, q⟩ := hs; exact fin J rv q
  | next => obtain ⟨σ', H', J, q⟩ := hs; exact fin (v := V.non) (u := Value.none) J rfl q
  | brk => obtain ⟨_, _, _, q⟩ := hs; exact False.elim q
  | cont => obtain ⟨_, _, _, q⟩ := hs; exact False.elim q
theorem okG {x qual : Str} {st : Stmt} {f : Addr} {fd : FuncData} {N ps : List Str} {k : Nat} {sp : Sp} (F : Fun K x qual st f fd) (S : FnScope N ps (defScope st)) (len : ∀ vs H Q E, sp vs H Q E → vs.length = ps.length)
    (hbody : ∀ (cdv : Value) (A : Around) (outer : List Env) (s : Shared) (H : Hp) (vs : List V) (Q : VK) (E : XK), Room k (A.deeper (envOfC qual (defScope st) s.heap.objs.size f cdv)) → A.guards = some [] → sp vs H Q E →
      ∃ t, PSs (cxOf (L2.CX P w) P w K mg base N qual (defScope st) f cdv A outer s H E) (defBody st) t ∧ t { nx := fun _ H' => Q .non H', rt := Q } (L2.start N vs) H) : FnG P w K mg base (k + 1) f fd ps sp := by
  obtain ⟨oc, od, kV, doc, pm, an, cdv, ct, osl, rfl, lk, hcd⟩ := F.ex
  exact fn_ofG lk hcd S len fun A outer s H vs Q E hr hg hsp => hbody cdv A outer s H vs Q E hr hg hsp
end
section
variable {X : Cx} {k : Nat} {f C : Addr} {fd : FuncData} {ps : List Str} {sp : Sp} {ds : List Value} {dvs : List V}
theorem run_fnG {E : XK} {pins : List (Addr × Obj)} {σ : L2.St} {H : Hp} {s : Shared} {Q : VK} {us : List Value} {vs : List V} (F : FnG X.prog X.w X.K X.mg X.base k f fd ps sp) (hr : Room k X.A) (hg : X.A.guards = some []) (hb : Binds X.K fd ps ds) (hd : Vals dvs ds) (hx : PassesAt (L2.CX X.prog X.w) X σ E)
    (I : Inv X pins σ H s) (r : Vals vs us) (h : sp (vs ++ dvs) H Q E) : wpAny (model X.prog X.w) X.A (call (.ref f) us) (EP X pins σ Q) X.xe s := by
  have r2 : Vals (vs ++ dvs) (us ++ ds) := r.append hd
  have hl : (us ++ ds).length = ps.length := by rw [← r2.length]; exact F.len _ _ _ _ h
  refine wpAny_call (codeAny_mono (F.run X.A X.stack s H ⟨us, []⟩ (us ++ ds) (vs ++ dvs) Q E hr hg I.env0 (hb s us I.kIn hl) r2 h) fun r s' hq => ?_)
  cases r with
  | error e => exact hx pins H s e s' I hq
  | ok fl =>
    cases fl with
    | ret u => exact I.after hq
    | next => exact False.elim hq
    | brk => exact False.elim hq
    | cont => exact False.elim hq
end
/-- what every rule of a body asks of its context -/
structure Cok (T : Tx) (k : Nat) : Prop where
  room : Room k T.X.A
  grd : T.X.A.guards = some []
  calm : T.X.calm = true
  nd : T.X.N.Nodup
  tk : Takes T.X T.W
  own : PassesOwn (model T.X.prog T.X.w) T.X.A T.X.env T.X.xe
theorem Cok.mono {T : Tx} {j k : Nat} (c : Cok T k) (h : j ≤ k) : Cok T j := ⟨c.room.mono h, c.grd, c.calm, c.nd, c.tk, c.own⟩

/-! ### the bodies -/
def st0 (n : Nat) (ds : List D) : List Sl := ds.map .dat ++ List.replicate (n - ds.length) .un
def answer (f : Fl) (Γ : List Sl) : Option Ans := match f with
  | .rt (.dat d) => some (.ok (.dat d))
  | .rt (.own d) => some (.ok (.own d))
  | .rt (.slot i) => match Γ[i]? with
    | some (.own d) => some (.ok (.own d))
    | some (.dat d) => some (.ok (.dat d))
    | _ => none
  | .nx => some (.ok (.dat .non))
  | _ => none
def runDef (n : Nat) (c : M Fl) : Fn := fun ds => match c (st0 n ds) with
  | none => none
  | some (.error e, _) => some (.error e)
  | some (.ok f, Γ) => answer f Γ
def answerM (f : Fl) (Γ : List Sl) (d1 : D) : Option (Ans × D) := match f with
  | .rt (.dat d) => some (.ok (.dat d), d1)
  | .rt (.own d) => some (.ok (.own d), d1)
  | .rt (.slot i) => if i = 0 then none else match Γ[i]? with
    | some (.own d) => some (.ok (.own d), d1)
    | some (.dat d) => some (.ok (.dat d), d1)
    | _ => none
  | .nx => some (.ok (.dat .non), d1)
  | _ => none
def lent (Γ : List Sl) : Option D := match Γ[0]? with
  | some (Sl.own d) => some d
  | _ => none
theorem lent_eq {Γ : List Sl} {d : D} (h : lent Γ = some d) : Γ[0]? = some (.own d) := by
  unfold lent at h
  split at h
  · rename_i d' e; cases h; exact e
  · cases h
def runDefM (n : Nat) (c : M Fl) : Fm := fun d0 ds => match c (.own d0 :: st0 (n - 1) ds) with
  | none => none
  | some (.error e, Γ) => (lent Γ).map fun d1 => (.error e, d1)
  | some (.ok f, Γ) => (lent Γ).bind fun d1 => answerM f Γ d1

section
variable {P : Program} {w : World} {K : PySem.W.Frag} {mg : Str → Option Value} {base : Heap} {cm : Nat → Addr}
/-- the context of a def's body -/
abbrev dtx (P : Program) (w : World) (K : PySem.W.Frag) (mg : Str → Option Value) (base : Heap) (cm : Nat → Addr) (N : List Str) (qual : Str) (sc : Scope) (f : Addr) (cdv : Value) (A : Around) (outer : List Env) (s : Shared) (H : Hp) (E : XK) (io : Option Addr) : Tx :=
  { X := cxOf (L2.CX P w) P w K mg base N qual sc f cdv A outer s H E, cm := cm, W := fun cls d _ H => E cls d H, io := io }
theorem cok_body {N ps : List Str} {qual : Str} {sc : Scope} {f : Addr} {cdv : Value} {A : Around} {outer : List Env} {s : Shared} {H : Hp} {E : XK} {io : Option Addr} {k : Nat} (S : FnScope N ps sc) (hr : Room k (A.deeper (envOfC qual sc s.heap.objs.size f cdv))) (hg : A.guards = some []) :
    Cok (dtx P w K mg base cm N qual sc f cdv A outer s H E io) k :=
  ⟨hr, hg, rfl, S.nd, takes_of rfl rfl rfl rfl, passes_of rfl⟩
theorem start_dt {N : List Str} {vs : List V} {ds : List D} {F : Hp} (i : IsAll K cm F vs ds) : (st0 N.length ds).length = (L2.start N vs).length ∧
    (∀ (j : Nat) (d : D), (st0 N.length ds)[j]? = some (.dat d) → ∃ v, (L2.start N vs)[j]? = some (some v) ∧ Is K cm F v d) ∧ ∀ (j : Nat) (d : D), (st0 N.length ds)[j]? ≠ some (.own d) := by
  have hl := i.length
  have key : ∀ (j : Nat) (sl : Sl), (st0 N.length ds)[j]? = some sl → sl = .un ∨ ∃ d, sl = .dat d ∧ ds[j]? = some d := fun j sl e => by
    unfold st0 at e
    by_cases hj : j < ds.length
    · rw [List.getElem?_append_left (by simpa using hj), List.getElem?_map] at e
      rcases q : ds[j]? with _ | d
      · rw [q] at e; cases e
      · rw [q] at e; cases e; exact .inr ⟨d, rfl, rfl⟩
    · rw [List.getElem?_append_right (by simpa using hj), List.getElem?_replicate] at e
      split at e
      · cases e; exact .inl rfl
      · cases e
  refine ⟨by simp [st0, L2.start, hl], fun j d e => ?_, fun j d e => ?_⟩
  · rcases key j _ e with q | ⟨d', q, h⟩
    · cases q
    · cases q
      obtain ⟨v, h1, h2⟩ := i.get h
      refine ⟨v, ?_, h2⟩
      unfold L2.start
      rw [List.getElem?_append_left (by rw [List.length_map]; exact lt_of_get h1), List.getElem?_map, h1]
      rfl
  · rcases key j _ e with q | ⟨d', q, h⟩ <;> cases q
/-- a def without a lent object keeps its promise -/
theorem def_pure {x qual : Str} {st : Stmt} {f : Addr} {fd : FuncData} {N ps : List Str} {k : Nat} {c : M Fl} (Fu : Fun K x qual st f fd) (S : FnScope N ps (defScope st))
    (hb : ∀ (cdv : Value) (A : Around) (outer : List Env) (s : Shared) (H : Hp) (E : XK), Cok (dtx P w K mg base cm N qual (defScope st) f cdv A outer s H E none) k → RSs (dtx P w K mg base cm N qual (defScope st) f cdv A outer s H E none) (defBody st) c) :
    FnG P w K mg base (k + 1) f fd ps (spD K cm ps.length (runDef N.length c)) := by
  refine okG Fu S (fun vs H Q E h => h.choose_spec.choose_spec.choose_spec.1) (fun cdv A outer s H vs Q E hr hgd h => ?_)
  obtain ⟨F, ds, r, hn, fh, i, hφ, hres⟩ := h
  refine ⟨_, hb cdv A outer s H E (cok_body S hr hgd) H F, F, st0 N.length ds, ?_, ?_⟩
  · obtain ⟨q1, q2, q3⟩ := start_dt (N := N) i
    exact ⟨fh, .refl _, .refl _, fun p o e => .inl e, q1, q2, fun j d e => absurd e (q3 j d), fun j k d e a h1 => absurd h1 (q3 j d), fun a z => by cases z⟩
  · have step : ∀ {F' : Hp} {Γ' : List Sl} {σ' : L2.St} {H' : Hp}, Sat K cm none H F F' Γ' σ' H' → Step F H F' H' := fun S => ⟨S.bh, S.f0, S.fh, S.nw⟩
    unfold runDef at hφ
    rcases e : c (st0 N.length ds) with _ | ⟨x | fl, Γ'⟩
    · rw [e] at hφ; cases hφ
    · rw [e] at hφ; cases hφ
      exact fun F' H' σ' cls dx q S' ie => hres F' H' cls dx (step S') ie
    · rw [e] at hφ
      intro F' H' σ' q S'
      have hφ : answer fl Γ' = some r := hφ
      cases fl with
      | nx => cases hφ; exact hres .non F' H' (step S') .non
      | bk => cases hφ
      | ct => cases hφ
      | rt r0 =>
        intro v hv
        cases r0 with
        | dat d => cases hφ; exact hres v F' H' (step S') hv
        | own d =>
          cases hφ
          obtain ⟨a, ho, rfl, h1, h2, h3, h4, _⟩ := hv
          exact hres a ho F' H' (step S') h2 h1 h3 h4
        | slot j =>
          obtain ⟨h1, d, h2⟩ := hv
          simp only [answer, h2] at hφ
          cases hφ
          obtain ⟨a, ho, g1, g2, g3, g4, g5⟩ := S'.ow j d h2
          rw [g1] at h1; injection h1 with h1; injection h1 with h1; subst h1
          exact hres a ho F' H' (step S') g3 g2 g4 g5
def del (H : Hp) (a : Addr) : Hp := fun b => if b = a then none else H b
theorem del_same {H : Hp} {a : Addr} : del H a a = none := by simp [del]
theorem del_ne {H : Hp} {a b : Addr} (h : b ≠ a) : del H a b = H b := by simp [del, h]
/-- .. with one: slot 0 -/
theorem def_lent {x qual : Str} {st : Stmt} {f : Addr} {fd : FuncData} {N ps : List Str} {k : Nat} {c : M Fl} (Fu : Fun K x qual st f fd) (S : FnScope N ps (defScope st)) (hp : 0 < ps.length)
    (hb : ∀ (a : Addr) (cdv : Value) (A : Around) (outer : List Env) (s : Shared) (H : Hp) (E : XK), Cok (dtx P w K mg base cm N qual (defScope st) f cdv A outer s H E (some a)) k → RSs (dtx P w K mg base cm N qual (defScope st) f cdv A outer s H E (some a)) (defBody st) c) :
    FnG P w K mg base (k + 1) f fd ps (spM K cm ps.length (runDefM N.length c)) := by
  refine okG Fu S (fun vs H Q E h => ?_) (fun cdv A outer s H vs Q E hr hgd h => ?_)
  · obtain ⟨_, _, _, _, _, _, _, _, _, h, _⟩ := h
    exact h
  obtain ⟨F, a, ho, d0, ws, ds, r, d1, rfl, hn, fh, fa, ha, hod, i, hφ, hres⟩ := h
  have hNl : ps.length ≤ N.length := by have := congrArg List.length S.pre; rw [List.length_take] at this; omega
  refine ⟨_, hb a cdv A outer s H E (cok_body S hr hgd) (del H a) F, F, .own d0 :: st0 (N.length - 1) ds, ?_, ?_⟩
  · have nn : ∃ y N', N = y :: N' := by
      cases N with
      | nil => simp only [List.length_nil] at hNl; omega
      | cons y N' => exact ⟨y, N', rfl⟩
    obtain ⟨y, N', rfl⟩ := nn
    have e0 : L2.start (y :: N') (V.ref a :: ws) = some (V.ref a) :: L2.start N' ws := by simp [L2.start]
    obtain ⟨q1, q2, q3⟩ := start_dt (N := N') i
    have e1 : (y :: N').length - 1 = N'.length := by simp
    rw [e1]
    refine ⟨fh, fun b o e => ?_, .refl _, fun p o e => .inl e, ?_, fun j d e => ?_, fun j d e => ?_, fun j k d e b h1 h2 _ _ => ?_, fun b z => ?_⟩
    · by_cases hb : b = a
      · subst hb; rw [del_same] at e; cases e
      · rw [del_ne hb] at e; exact e
    · show _ = (L2.start (y :: N') (V.ref a :: ws)).length
      rw [e0]; simp [q1]
    · show ∃ v, (L2.start (y :: N') (V.ref a :: ws))[j]? = _ ∧ _
      rw [e0]
      cases j with
      | zero => cases e
      | succ j => exact q2 j d (by simpa using e)
    · show ∃ b ho, (L2.start (y :: N') (V.ref a :: ws))[j]? = _ ∧ _
      rw [e0]
      cases j with
      | zero => cases e; exact ⟨a, ho, rfl, fa, del_same, ha, hod⟩
      | succ j => exact absurd (by simpa using e) (q3 j d)
    · cases j with
      | zero => cases k with
        | zero => rfl
        | succ k => exact absurd (by simpa using h2) (q3 k e)
      | succ j => exact absurd (by simpa using h1) (q3 j d)
    · have z : a = b := Option.some.inj z
      subst z
      show (L2.start (y :: N') (V.ref a :: ws))[0]? = _
      rw [e0] <;> rfl
  · have nwH : ∀ {F' : Hp}, (∀ p o, F' p = some o → F p = some o ∨ del H a p = none) → F' a = none → ∀ p o, F' p = some o → F p = some o ∨ H p = none := fun nw na p o e => by
      have hpa : p ≠ a := fun z => by subst z; rw [na] at e; cases e
      rcases nw p o e with h | h
      · exact .inl h
      · rw [del_ne hpa] at h; exact .inr h
    have step : ∀ {F' : Hp} {Γ' : List Sl} {σ' : L2.St} {H' : Hp} {d : D}, Sat K cm (some a) (del H a) F F' Γ' σ' H' → Γ'[0]? = some (.own d) → F' a = none ∧ StepM a F H F' H' ∧ ∃ ho1, H' a = some ho1 ∧ OwnIs K cm F' ho1 d := fun {F' Γ' σ' H' d} S e => by
      obtain ⟨b, ho1, g1, g2, g3, g4, g5⟩ := S.ow 0 d e
      have := S.ioA a rfl
      rw [this] at g1; injection g1 with g1; injection g1 with g1; injection g1 with g1; subst g1
      exact ⟨g2, ⟨fun b o hb q => S.bh b o (by rw [del_ne hb]; exact q), S.f0, S.fh, nwH S.nw g2⟩, ho1, g4, g5⟩
    unfold runDefM at hφ
    rcases e : c (.own d0 :: st0 (N.length - 1) ds) with _ | ⟨x | fl, Γ'⟩
    · rw [e] at hφ; cases hφ
    · rw [e] at hφ
      rcases hl : lent Γ' with _ | d2
      · simp [hl] at hφ
      · simp only [hl, Option.map_some, Option.some.injEq, Prod.mk.injEq] at hφ
        obtain ⟨rfl, rfl⟩ := hφ
        intro F' H' σ' cls dx q S' ie
        obtain ⟨_, t, ho1, k1, k2⟩ := step S' (lent_eq hl)
        exact hres ho1 F' H' cls dx t k1 k2 ie
    · rw [e] at hφ
      rcases hl : lent Γ' with _ | d2
      · simp [hl] at hφ
      · simp only [hl, Option.bind_some] at hφ
        have hd := lent_eq hl
        intro F' H' σ' q S'
        obtain ⟨na, t, ho1, k1, k2⟩ := step S' hd
        cases fl with
        | nx => cases hφ; exact hres .non ho1 F' H' t k1 k2 .non
        | bk => cases hφ
        | ct => cases hφ
        | rt r0 =>
          intro v hv
          cases r0 with
          | dat d => cases hφ; exact hres v ho1 F' H' t k1 k2 hv
          | own d =>
            cases hφ
            obtain ⟨b, hob, rfl, h1, h2, h3, h4, h5⟩ := hv
            have hba : b ≠ a := fun z => by subst z; exact h5 0 _ hd (S'.ioA b rfl)
            rw [del_ne hba] at h2
            exact hres b hob ho1 F' H' t k1 k2 h2 h1 h3 h4
          | slot j =>
            obtain ⟨h1, d, h2⟩ := hv
            simp only [answerM] at hφ
            split at hφ
            · cases hφ
            · rename_i hj
              simp only [h2] at hφ
              cases hφ
              obtain ⟨b, hob, g1, g2, g3, g4, g5⟩ := S'.ow j d h2
              rw [g1] at h1; injection h1 with h1; injection h1 with h1; subst h1
              have hba : b ≠ a := fun z => by subst z; exact hj (S'.ap j 0 _ _ b h2 hd g1 (S'.ioA b rfl))
              rw [del_ne hba] at g3
              exact hres b hob ho1 F' H' t k1 k2 g3 g2 g4 g5
end

/-! ### calls -/
/-- a def's answer in the middle of an expression -/
def liftX (o : Option Ans) : M Rf := fun Γ => match o with
  | some (.ok (.dat d)) => some (.ok (.dat d), Γ)
  | some (.ok (.own d)) => some (.ok (.own d), Γ)
  | some (.error e) => some (.error e, Γ)
  | _ => none
def sCallF (φ : Fn) (c : M (List D)) : M Rf := bnd c fun ds => liftX (φ ds)
/-- a def of the module -/
structure DefP (P : Program) (w : World) (K : PySem.W.Frag) (mg : Str → Option Value) (base : Heap) (cm : Nat → Addr) (k : Nat) (x : Str) (ps : List Str) (φ : Fn) : Prop where
  ex : ∃ f fd, mg x = some (.ref f) ∧ PySem.W.keepIn K (.ref f) = true ∧ Binds K fd ps [] ∧ FnG P w K mg base k f fd ps (spD K cm ps.length φ)
structure DefM (P : Program) (w : World) (K : PySem.W.Frag) (mg : Str → Option Value) (base : Heap) (cm : Nat → Addr) (k : Nat) (x : Str) (ps : List Str) (φ : Fm) : Prop where
  ex : ∃ f fd, mg x = some (.ref f) ∧ PySem.W.keepIn K (.ref f) = true ∧ Binds K fd ps [] ∧ FnG P w K mg base k f fd ps (spM K cm ps.length φ)
section
variable {T : Tx} {B F0 F : Hp} {Γ : List Sl} {σ : St} {H : Hp} {Q : VK}
theorem IsAll.len {K : PySem.W.Frag} {cm : Nat → Addr} {F : Hp} {vs : List V} {ds : List D} (i : IsAll K cm F vs ds) {n : Nat} (h : ds.length = n) : vs.length = n := by rw [i.length, h]
theorem Run.liftX {o : Option Ans} (r : Run T B F0 (DL.liftX o) F Γ σ H fun r F' Γ' H' => ∀ v, IsRf T.X.K T.cm B F' Γ' σ H' v r → Q v H') : ∃ r, o = some r ∧ ResX T.X.K T.cm F H Q (WE T.W σ) r := by
  obtain ⟨S, r⟩ := r
  match o, r with
  | some (.ok (.dat d)), r => exact ⟨_, rfl, fun v F' H' t i => r F' H' t.ff (S.step t) v i⟩
  | some (.ok (.own d)), r =>
    refine ⟨_, rfl, fun a ho F' H' t n n' e h => r F' H' t.ff (S.step t) _ ⟨a, ho, rfl, n', S.bh.free n, e, h, fun i e' hg hs => ?_⟩⟩
    obtain ⟨a', ho', g1, _, _, g4, _⟩ := S.ow i e' hg
    rw [g1] at hs; injection hs with hs; injection hs with hs; injection hs with hs; subst hs
    rw [n] at g4; cases g4
  | some (.ok (.slot i)), r => exact r.elim
  | some (.error e), r => exact ⟨_, rfl, fun F' H' cls dx t i => r F' H' cls dx t.ff (S.step t) i⟩
  | none, r => exact r.elim
variable {k : Nat} {x : Str} {ps : List Str} {φ : Fn} {p pos : Pos} {e : Expr} {es : List Expr} {cs : M (List D)}
/-- the number of the arguments is asked at the call -/
def argN (n : Nat) (φ : Fn) : Fn := fun ds => if ds.length = n then φ ds else none
theorem re_call (G : DefP T.X.prog T.X.w T.X.K T.X.mg T.X.base T.cm k x ps φ) (c : Cok T k) (ha : RA T (e :: es) cs) (hg : Gl T.X x := by rfl) (hdb : (x == ("__debug__" : Str)) = false := by decide)
    (he : starEach (e :: es) T.X.env = (false, eval e T.X.env) :: starEach es T.X.env := by rfl) (hpl : (backTo pos (starEach es T.X.env)).any (·.1) = false := by rfl) : RE T (.Call (.Name x p) (e :: es) [] pos) (sCallF (argN ps.length φ) cs) := fun B F0 => by
  obtain ⟨f, fd, hm, hk, hb, F⟩ := G.ex
  refine ⟨fun pins s σ H Q I ⟨F1, Γ1, r⟩ => ?_⟩
  refine wpAny_Call_Name_kw (ld_glob I hg hm ?_ hdb)
  refine PySem.W.callWith_K (h₀ := T.X.base) I.ok.mod.kin hk (thn ((ha B F0).run pos pins s σ H (fun vs H1 => spD T.X.K T.cm ps.length φ vs H1 Q (WE T.W σ)) I ⟨F1, Γ1, r.bnd.mono fun ds F2 Γ2 H2 q2 S2 r2 vs hvs => ?_⟩) fun us s1 ⟨vs, H1, I1, rv, q⟩ => ⟨I1.kIn, ?_⟩) he hpl
  · obtain ⟨r0, e0, h0⟩ := r2.liftX
    unfold argN at e0
    split at e0
    · rename_i hn
      exact ⟨F2, ds, r0, hvs.len hn, S2.fh, hvs, e0, h0⟩
    · cases e0
  · exact run_fnG F c.room c.grd hb .nil (passAt c.tk σ) I1 rv (by rw [List.append_nil]; exact q)
theorem re_call0 (G : DefP T.X.prog T.X.w T.X.K T.X.mg T.X.base T.cm k x [] φ) (c : Cok T k) (hg : Gl T.X x := by rfl) (hdb : (x == ("__debug__" : Str)) = false := by decide) : RE T (.Call (.Name x p) [] [] pos) (liftX (φ [])) := fun B F0 => by
  obtain ⟨f, fd, hm, hk, hb, F⟩ := G.ex
  refine ⟨fun pins s σ H Q I ⟨F1, Γ1, r⟩ => ?_⟩
  obtain ⟨r0, e0, h0⟩ := r.liftX
  refine wpAny_Call_Name_kw (ld_glob I hg hm ?_ hdb)
  exact PySem.W.callWith_K0 I.kIn hk (run_fnG (us := []) (vs := []) F c.room c.grd hb .nil (passAt c.tk σ) I .nil ⟨F1, [], r0, rfl, r.1.fh, .nil, e0, h0⟩)

/-! ### .. with a lent object -/
/-- the object of slot i is lent to φ -/
def lendX (φ : Fm) (i : Nat) (ds : List D) : M Rf := fun Γ => match Γ[i]? with
  | some (.own d0) => match φ d0 ds with
    | some (.ok (.dat d), d1) => some (.ok (.dat d), Γ.set i (.own d1))
    | some (.ok (.own d), d1) => some (.ok (.own d), Γ.set i (.own d1))
    | some (.error e, d1) => some (.error e, Γ.set i (.own d1))
    | _ => none
  | _ => none
def lendA (φ : Fm) (a : Rf) (ds : List D) : M Rf := match a with
  | .slot i => lendX φ i ds
  | _ => fail
theorem Run.lendX {φ : Fm} {i : Nat} {ds : List D} {v : V} (r : Run T B F0 (DL.lendX φ i ds) F Γ σ H fun r F' Γ' H' => ∀ v, IsRf T.X.K T.cm B F' Γ' σ H' v r → Q v H') (hv : σ[i]? = some (some v)) :
    ∃ a ho d0 r0 d1, v = .ref a ∧ F a = none ∧ H a = some ho ∧ OwnIs T.X.K T.cm F ho d0 ∧ φ d0 ds = some (r0, d1) ∧ ResM T.X.K T.cm a F H Q (WE T.W σ) d1 r0 := by
  obtain ⟨S, r⟩ := r
  unfold DL.lendX at r
  rcases q : Γ[i]? with _ | sl
  · simp only [q] at r
  cases sl with
  | un => simp only [q] at r
  | dat d => simp only [q] at r
  | own d0 =>
    simp only [q] at r
    obtain ⟨a, ho, h1, h2, h3, h4, h5⟩ := S.ow i d0 q
    rw [h1] at hv; injection hv with hv; injection hv with hv; subst hv
    have sat : ∀ {F' H' : Hp} {ho1 : HO} {d1 : D}, StepM a F H F' H' → H' a = some ho1 → OwnIs T.X.K T.cm F' ho1 d1 → T.Sat B F0 F' (Γ.set i (.own d1)) σ H' := fun t k1 k2 => S.write q h1 t.hh t.ff t.fh t.nw k1 k2
    refine ⟨a, ho, d0, ?_⟩
    rcases e : φ d0 ds with _ | ⟨r0, d1⟩
    · simp only [e] at r
    · refine ⟨r0, d1, rfl, h2, h4, h5, rfl, ?_⟩
      match r0, e with
      | .ok (.dat d), e =>
        simp only [e] at r
        exact fun v ho1 F' H' t k1 k2 iv => r F' H' t.ff (sat t k1 k2) v iv
      | .ok (.own d), e =>
        simp only [e] at r
        intro b hob ho1 F' H' t k1 k2 nb nF eb ob
        refine r F' H' t.ff (sat t k1 k2) _ ⟨b, hob, rfl, nF, S.bh.free nb, eb, ob, fun j e' hg hs => ?_⟩
        obtain ⟨d2, g⟩ : ∃ d2 : D, Γ[j]? = some (.own d2) := by
          rcases get_set hg with ⟨rfl, _, _⟩ | ⟨_, g⟩
          · exact ⟨d0, q⟩
          · exact ⟨e', g⟩
        obtain ⟨a', ho', g1, _, _, g4, _⟩ := S.ow j d2 g
        rw [g1] at hs; injection hs with hs; injection hs with hs; injection hs with hs; subst hs
        rw [nb] at g4; cases g4
      | .ok (.slot j), e => simp only [e] at r
      | .error x, e =>
        simp only [e] at r
        exact fun ho1 F' H' cls dx t k1 k2 ie => r F' H' cls dx t.ff (sat t k1 k2) ie
/-- arguments: the first is a slot's object, the others are kept -/
def mCons (a : M Rf) (cs : M (List D)) : M (Rf × List D) := bnd a fun r => bnd cs fun ds => ret (r, ds)
def sCallM (φ : Fm) (a : M Rf) (cs : M (List D)) : M Rf := bnd (mCons a cs) fun p => lendA φ p.1 p.2
def argM (n : Nat) (φ : Fm) : Fm := fun d ds => if ds.length + 1 = n then φ d ds else none
variable {φm : Fm} {ca : M Rf}
theorem re_callM (G : DefM T.X.prog T.X.w T.X.K T.X.mg T.X.base T.cm k x ps φm) (c : Cok T k) (hc : RE T e ca) (ha : RA T es cs) (hg : Gl T.X x := by rfl) (hdb : (x == ("__debug__" : Str)) = false := by decide)
    (he : starEach (e :: es) T.X.env = (false, eval e T.X.env) :: starEach es T.X.env := by rfl) (hpl : (backTo pos (starEach es T.X.env)).any (·.1) = false := by rfl) : RE T (.Call (.Name x p) (e :: es) [] pos) (sCallM (argM ps.length φm) ca cs) := fun B F0 => by
  obtain ⟨f, fd, hm, hk, hb, F⟩ := G.ex
  refine ⟨fun pins s σ H Q I ⟨F1, Γ1, r⟩ => ?_⟩
  refine wpAny_Call_Name_kw (ld_glob I hg hm ?_ hdb)
  refine PySem.W.callWith_K (h₀ := T.X.base) I.ok.mod.kin hk (thn ((pa_cons (hc B F0) (ha B F0) he).run pos pins s σ H (fun vs H1 => spM T.X.K T.cm ps.length φm vs H1 Q (WE T.W σ)) I
    ⟨F1, Γ1, r.bnd.bnd.mono fun r0 F1 Γ1 H1 q1 S1 r1 v hv => ⟨F1, Γ1, r1.bnd.mono fun ds F2 Γ2 H2 q2 S2 r2 vs hvs => ?_⟩⟩) fun us s1 ⟨vs, H1, I1, rv, q⟩ => ⟨I1.kIn, ?_⟩) he hpl
  · have r3 := r2.ret.2
    cases r0 with
    | dat d => exact r3.2.elim
    | own d => exact r3.2.elim
    | slot i =>
      obtain ⟨a, ho, d0, r0, d1, rfl, h1, h2, h3, h4, h5⟩ := Run.lendX r3 hv.1
      unfold argM at h4
      split at h4
      · rename_i hn
        exact ⟨F2, a, ho, d0, vs, ds, r0, d1, rfl, by simp only [List.length_cons, hvs.length, hn], S2.fh, h1, h2, h3, hvs, h4, h5⟩
      · cases h4
  · exact run_fnG F c.room c.grd hb .nil (passAt c.tk σ) I1 rv (by rw [List.append_nil]; exact q)
end
end DL

/-! DL7: built-in functions, subscripts, slices, list methods. -/
namespace DL
open PySem L2 PyProof.Rows

section
variable {T : Tx} {K : PySem.W.Frag} {cm : Nat → Addr} {F H : Hp}
theorem AllT.one {vs : List V} {d : D} (h : AllT K cm F H vs [d]) : ∃ v, vs = [v] ∧ IsT K cm F H v d := by
  match vs, h with
  | [v], h => exact ⟨v, rfl, h.1⟩
theorem AllT.two {vs : List V} {d e : D} (h : AllT K cm F H vs [d, e]) : ∃ v u, vs = [v, u] ∧ IsT K cm F H v d ∧ IsT K cm F H u e := by
  match vs, h with
  | [v, u], h => exact ⟨v, u, rfl, h.1, h.2.1⟩
theorem IsT.rdL {v : V} {ds : List D} (hh : Same F H) (h : IsT K cm F H v (.lst ds)) : ∃ a vs, v = .ref a ∧ SqL K H a vs ∧ IsAll K cm F vs ds := h.lst hh

/-! ### len -/
def lenF : List D → Option Rf
  | [.lst xs] => some (.dat (.int xs.length))
  | [.tup xs] => some (.dat (.int xs.length))
  | [.str x] => if x.length ≤ big then some (.dat (.int x.length)) else none
  | _ => none
theorem call_lenF : CallD T (.builtin "len") lenF := by
  intro pins s σ H vs us Q I r ⟨F, ds, fh, at_, h⟩
  match ds, at_, h with
  | [.lst xs], at_, h =>
    obtain ⟨v, rfl, i⟩ := at_.one
    obtain ⟨a, ws, rfl, g1, g2⟩ := i.rdL fh
    exact call_len_seq pins s σ H _ us Q I r ⟨a, ws, rfl, .inl g1, by rw [g2.length]; exact h.val fh (.int _)⟩
  | [.tup xs], at_, h =>
    obtain ⟨v, rfl, i⟩ := at_.one
    obtain ⟨a, ws, rfl, g1, g2⟩ := i.tup fh
    exact call_len_seq pins s σ H _ us Q I r ⟨a, ws, rfl, .inr g1, by rw [g2.length]; exact h.val fh (.int _)⟩
  | [.str x], at_, h =>
    obtain ⟨v, rfl, i⟩ := at_.one
    simp only [lenF] at h
    split at h
    · rename_i hl
      rw [i.str] at r
      exact call_len_str pins s σ H _ us Q I r ⟨x, rfl, le_big hl, h.val fh (.int _)⟩
    · exact h.elim

/-! ### list(..), tuple(..) -/
def listF : List D → Option Rf
  | [.lst xs] => some (.own (.lst xs))
  | [.tup xs] => some (.own (.lst xs))
  | [.str x] => if x.length ≤ big then some (.own (.lst (strD x))) else none
  | _ => none
theorem vals_signs {x : Str} {acc : Array Value} (h : ItemsOf (SignAt x) acc x.cps.size) : Vals (x.cps.toList.map fun c => V.str ⟨#[c]⟩) acc.toList := by
  obtain ⟨hs, hi⟩ := h
  have key : ∀ (l : List Nat) (its : List Value), l.length = its.length → (∀ (i : Nat) (c : Nat) (u : Value), l[i]? = some c → its[i]? = some u → ∃ t, u = .str ⟨#[c]⟩ t) → Vals (l.map fun c => V.str ⟨#[c]⟩) its := fun l => by
    induction l with
    | nil => intro its hl _; cases its with
      | nil => exact .nil
      | cons _ _ => cases hl
    | cons c l ih => intro its hl hx; cases its with
      | nil => cases hl
      | cons u its =>
        exact .cons (hx 0 c u rfl rfl) (ih its (by simpa using hl) fun i c u h1 h2 => hx (i + 1) c u (by simpa using h1) (by simpa using h2))
  refine key _ _ (by simp [hs]) fun i c u h1 h2 => ?_
  obtain ⟨c', t, e1, e2⟩ := hi i u (by simpa using h2)
  have : x.cps.toList[i]? = some c' := by simpa using e1
  rw [h1] at this; cases this
  exact ⟨t, e2⟩
theorem isAll_signs (F : Hp) (x : Str) : IsAll K cm F (x.cps.toList.map fun c => V.str ⟨#[c]⟩) (strD x) := by
  unfold strD
  induction x.cps.toList with
  | nil => exact .nil
  | cons c l ih => exact .cons (.str _) ih
theorem call_listF (hc : T.X.calm = true) : CallD T (.type "list") listF := by
  intro pins s σ H vs us Q I r ⟨F, ds, fh, at_, h⟩
  match ds, at_, h with
  | [.lst xs], at_, h =>
    obtain ⟨v, rfl, i⟩ := at_.one
    obtain ⟨a, ws, rfl, g1, g2⟩ := i.rdL fh
    exact call_list_of pins s σ H _ us Q I r ⟨a, ws, rfl, .inl g1, h.newLst fh g2⟩
  | [.tup xs], at_, h =>
    obtain ⟨v, rfl, i⟩ := at_.one
    obtain ⟨a, ws, rfl, g1, g2⟩ := i.tup fh
    exact call_list_of pins s σ H _ us Q I r ⟨a, ws, rfl, .inr g1, h.newLst fh g2⟩
  | [.str x], at_, h =>
    obtain ⟨v, rfl, i⟩ := at_.one
    simp only [listF] at h
    split at h
    · rename_i hl
      rw [i.str] at r
      obtain ⟨u, rfl, t, rfl⟩ := vals1 r
      refine call_list_str (I.ok.hd hc) x t (fun h' tk acc c' kp e it => ?_) (le_big hl)
      have hz : x.cps.toList.length ≤ sizeLine := by rw [Array.length_toList]; exact le_big hl
      exact ⟨.ref _, _, I.laid kp (Nat.le_refl _) (show ObjOk _ _ _ h' _ (.lst _) from ⟨by rw [List.length_map]; exact hz, acc.toList, c', vals_signs it, by rw [e]⟩), rfl, h.newLst fh (isAll_signs F x) _ (I.hok.fresh (Nat.le_refl _))⟩
    · exact h.elim
def tupleF : List D → Option Rf
  | [.lst xs] => some (.dat (.tup xs))
  | [.tup xs] => some (.dat (.tup xs))
  | _ => none
theorem call_tupleF : CallD T (.type "tuple") tupleF := by
  intro pins s σ H vs us Q I r ⟨F, ds, fh, at_, h⟩
  match ds, at_, h with
  | [.lst xs], at_, h =>
    obtain ⟨v, rfl, i⟩ := at_.one
    obtain ⟨a, ws, rfl, g1, g2⟩ := i.rdL fh
    exact call_tuple_of pins s σ H _ us Q I r ⟨a, ws, rfl, .inl ⟨g1, h.newTup fh g2⟩⟩
  | [.tup xs], at_, h =>
    obtain ⟨v, rfl, i⟩ := at_.one
    obtain ⟨a, ws, rfl, g1, g2⟩ := i.tup fh
    refine call_tuple_of pins s σ H _ us Q I r ⟨a, ws, rfl, .inr ⟨g1, ?_⟩⟩
    rcases i with i | ⟨b, ho, _, _, i⟩
    · exact h _ _ _ (.refl fh) i
    · cases i

/-! ### min, max, sum, any, all -/
def intsD : List D → Option (List Int)
  | [] => some []
  | .int i :: ds => (intsD ds).map (i :: ·)
  | _ => none
theorem intsD_map : ∀ (ns : List Int), intsD (ns.map .int) = some ns
  | [] => rfl
  | i :: ns => by simp [intsD, intsD_map ns]
theorem intsD_vs : ∀ {ds : List D} {ns : List Int} {vs : List V}, intsD ds = some ns → IsAll K cm F vs ds → vs = ns.map .int
  | [], ns, vs, e, i => by cases e; cases i; rfl
  | d :: ds, ns, vs, e, i => by
    cases i with
    | cons i is =>
      cases d <;> first | (cases e; done) | skip
      rename_i j
      simp only [intsD, Option.map_eq_some_iff] at e
      obtain ⟨ms, e1, rfl⟩ := e
      rw [IsT.int (H := F) (.inl i), intsD_vs e1 is]
      rfl
def blsD : List D → Option (List Bool)
  | [] => some []
  | .bl i :: ds => (blsD ds).map (i :: ·)
  | _ => none
theorem blsD_vs : ∀ {ds : List D} {ns : List Bool} {vs : List V}, blsD ds = some ns → IsAll K cm F vs ds → vs = ns.map .bl
  | [], ns, vs, e, i => by cases e; cases i; rfl
  | d :: ds, ns, vs, e, i => by
    cases i with
    | cons i is =>
      cases d <;> first | (cases e; done) | skip
      rename_i j
      simp only [blsD, Option.map_eq_some_iff] at e
      obtain ⟨ms, e1, rfl⟩ := e
      rw [IsT.bl (H := F) (.inl i), blsD_vs e1 is]
      rfl
def minL : List Int → Int
  | [] => 0
  | [i] => i
  | i :: is => if minL is < i then minL is else i
def maxL : List Int → Int
  | [] => 0
  | [i] => i
  | i :: is => if i < maxL is then maxL is else i
theorem minL_spec : ∀ (ns : List Int), ns ≠ [] → minL ns ∈ ns ∧ ∀ y ∈ ns, minL ns ≤ y
  | [], h => absurd rfl h
  | [i], _ => by simp [minL]
  | i :: j :: is, _ => by
    obtain ⟨h1, h2⟩ := minL_spec (j :: is) (by simp)
    simp only [minL] at h1 h2 ⊢
    split
    · rename_i hlt
      refine ⟨List.mem_cons_of_mem _ h1, fun y hy => ?_⟩
      rcases List.mem_cons.mp hy with rfl | hy
      · omega
      · exact h2 y hy
    · rename_i hlt
      refine ⟨List.mem_cons_self, fun y hy => ?_⟩
      rcases List.mem_cons.mp hy with rfl | hy
      · exact Int.le_refl _
      · have := h2 y hy; omega
theorem maxL_spec : ∀ (ns : List Int), ns ≠ [] → maxL ns ∈ ns ∧ ∀ y ∈ ns, y ≤ maxL ns
  | [], h => absurd rfl h
  | [i], _ => by simp [maxL]
  | i :: j :: is, _ => by
    obtain ⟨h1, h2⟩ := maxL_spec (j :: is) (by simp)
    simp only [maxL] at h1 h2 ⊢
    split
    · rename_i hlt
      refine ⟨List.mem_cons_of_mem _ h1, fun y hy => ?_⟩
      rcases List.mem_cons.mp hy with rfl | hy
      · omega
      · exact h2 y hy
    · rename_i hlt
      refine ⟨List.mem_cons_self, fun y hy => ?_⟩
      rcases List.mem_cons.mp hy with rfl | hy
      · exact Int.le_refl _
      · have := h2 y hy; omega
def minF : List D → Option Rf
  | [.int i, .int j] => some (.dat (.int (if j < i then j else i)))
  | [.lst ds] => match intsD ds with
    | some (n :: ns) => some (.dat (.int (minL (n :: ns))))
    | _ => none
  | _ => none
def maxF : List D → Option Rf
  | [.int i, .int j] => some (.dat (.int (if j > i then j else i)))
  | [.lst ds] => match intsD ds with
    | some (n :: ns) => some (.dat (.int (maxL (n :: ns))))
    | _ => none
  | _ => none
theorem call_minF (hc : T.X.calm = true) : CallD T (.builtin "min") minF := by
  intro pins s σ H vs us Q I r ⟨F, ds, fh, at_, h⟩
  match ds, at_, h with
  | [.int i, .int j], at_, h =>
    obtain ⟨v, u, rfl, i1, i2⟩ := at_.two
    exact call_min2 hc pins s σ H _ us Q I r ⟨i, j, by rw [i1.int, i2.int], h.val fh (.int _)⟩
  | [.lst xs], at_, h =>
    obtain ⟨v, rfl, i⟩ := at_.one
    obtain ⟨a, ws, rfl, g1, g2⟩ := i.rdL fh
    simp only [minF] at h
    split at h
    · rename_i n ns e
      have ew := intsD_vs e g2
      subst ew
      obtain ⟨m1, m2⟩ := minL_spec (n :: ns) (by simp)
      refine cr_min hc pins s σ H _ us Q I r ⟨a, n :: ns, rfl, g1, by simp, fun m h1 h2 => ?_⟩
      have : m = minL (n :: ns) := Int.le_antisymm (h2 _ m1) (m2 _ h1)
      rw [this]
      exact h.val fh (.int _)
    · exact h.elim
theorem call_maxF (hc : T.X.calm = true) : CallD T (.builtin "max") maxF := by
  intro pins s σ H vs us Q I r ⟨F, ds, fh, at_, h⟩
  match ds, at_, h with
  | [.int i, .int j], at_, h =>
    obtain ⟨v, u, rfl, i1, i2⟩ := at_.two
    exact call_max2 hc pins s σ H _ us Q I r ⟨i, j, by rw [i1.int, i2.int], h.val fh (.int _)⟩
  | [.lst xs], at_, h =>
    obtain ⟨v, rfl, i⟩ := at_.one
    obtain ⟨a, ws, rfl, g1, g2⟩ := i.rdL fh
    simp only [maxF] at h
    split at h
    · rename_i n ns e
      have ew := intsD_vs e g2
      subst ew
      obtain ⟨m1, m2⟩ := maxL_spec (n :: ns) (by simp)
      refine cr_max hc pins s σ H _ us Q I r ⟨a, n :: ns, rfl, g1, by simp, fun m h1 h2 => ?_⟩
      have : m = maxL (n :: ns) := Int.le_antisymm (m2 _ h1) (h2 _ m1)
      rw [this]
      exact h.val fh (.int _)
    · exact h.elim
def sumF : List D → Option Rf
  | [.lst ds] => (intsD ds).map fun ns => .dat (.int ns.sum)
  | _ => none
theorem call_sumF (hc : T.X.calm = true) : CallD T (.builtin "sum") sumF := by
  intro pins s σ H vs us Q I r ⟨F, ds, fh, at_, h⟩
  match ds, at_, h with
  | [.lst xs], at_, h =>
    obtain ⟨v, rfl, i⟩ := at_.one
    obtain ⟨a, ws, rfl, g1, g2⟩ := i.rdL fh
    rcases e : intsD xs with _ | ns
    · simp only [sumF, e, Option.map_none] at h; exact h.elim
    · simp only [sumF, e, Option.map_some] at h
      have ew := intsD_vs e g2
      subst ew
      exact cr_sum hc pins s σ H _ us Q I r ⟨a, ns, rfl, g1, h.val fh (.int _)⟩

/-! ### isinstance(x, T), T a built-in type -/
def tyN : D → Option String
  | .non => some "NoneType"
  | .bl _ => some "bool"
  | .int _ => some "int"
  | .str _ => some "str"
  | .lst _ => some "list"
  | .tup _ => some "tuple"
  | .dic _ _ => some "dict"
  | _ => none
theorem tyX_of {v : V} {d : D} {n : String} (hh : Same F H) (i : IsT K cm F H v d) (e : tyN d = some n) : TyX K H v (.type n) := by
  cases d <;> first | (cases e; done) | (cases e)
  · rw [i.non]; exact .base .non
  · rw [i.bl]; exact .base (.bl _)
  · rw [i.int]; exact .base (.int _)
  · rw [i.str]; exact .base (.str _)
  · obtain ⟨a, vs, rfl, r, _⟩ := i.lst hh
    rcases r with (r | ⟨o, r⟩) | ⟨o, its, n, h1, h2, _⟩
    · exact .base (.lst r)
    · exact .base (.frz r)
    · exact .kList h1 h2
  · obtain ⟨a, vs, rfl, r, _⟩ := i.tup hh
    rcases r with (r | ⟨o, r⟩) | ⟨o, its, n, h1, h2, _⟩
    · exact .base (.tup r)
    · exact .fTuple r
    · exact .kTuple h1 h2
  · obtain ⟨a, ho, rfl, r, oi⟩ := i.dic hh
    cases oi with
    | dK _ _ =>
      rcases r with r | ⟨_, o, r⟩
      · exact .base (.dK r)
      · exact .fDict r
    | dT _ _ => exact .base (.dT (r.flat rfl))
def isiF : List D → Option Rf
  | [d, .ty n] => (tyN d).bind fun t => (kitB t n).map fun b => .dat (.bl b)
  | _ => none
theorem call_isiF : CallD T (.builtin "isinstance") isiF := by
  intro pins s σ H vs us Q I r ⟨F, ds, fh, at_, h⟩
  match ds, at_, h with
  | [d, .ty n], at_, h =>
    obtain ⟨v, u, rfl, i1, i2⟩ := at_.two
    rcases e : tyN d with _ | t
    · simp only [isiF, e, Option.bind_none] at h; exact h.elim
    · rcases e2 : kitB t n with _ | b
      · simp only [isiF, e, e2, Option.bind_some, Option.map_none] at h; exact h.elim
      · simp only [isiF, e, e2, Option.bind_some, Option.map_some] at h
        exact call_isi pins s σ H _ us Q I r ⟨v, .ty n, .type t, .type n, b, by rw [i2.ty], .ty n, tyX_of fh i1 e, kit_ty e2, h.val fh (.bl _)⟩

/-! ### str(int) -/
def strF : List D → Option Rf
  | [.int i] => if i.natAbs.log2 < 1920 then some (.dat (.str (toString i))) else none
  | [.str x] => some (.dat (.str x))
  | _ => none
end
end DL

/-! DL8: repr, sorted, join; subscripts, slices; append, pop, extend. -/
namespace DL
open PySem L2 PyProof.Rows PySem.W

section
variable {T : Tx} {K : PySem.W.Frag} {cm : Nat → Addr} {F H : Hp}
/-! ### repr -/
def reprF : List D → Option Rf
  | [d] => if okD 60 d && (py d).showable && decide ((py d).shown.length ≤ big) then some (.dat (.str (py d).shown)) else none
  | _ => none
theorem noDict_py : ∀ (n : Nat) (d : D), okD n d = true → (py d).hasDict = false := by
  intro n
  induction n with
  | zero => intro d h; cases d <;> first | (simp [okD] at h; done) | simp [py, PyData.hasDict]
  | succ n ih =>
    have key : ∀ xs : List D, xs.all (okD n) = true → PyData.hasDictAll (pyAll xs) = false := fun xs => by
      induction xs with
      | nil => intro _; simp [pyAll, PyData.hasDictAll]
      | cons x xs ih2 =>
        intro h
        simp only [List.all_cons, Bool.and_eq_true] at h
        simp [pyAll, PyData.hasDictAll, ih x h.1, ih2 h.2]
    intro d h
    cases d <;> first | (simp [okD] at h; done) | (simp [py, PyData.hasDict]; done) | skip
    · simp only [py, PyData.hasDict]; exact key _ (by simpa [okD] using h)
    · simp only [py, PyData.hasDict]; exact key _ (by simpa [okD] using h)
theorem call_reprF {k : Nat} (c : Cok T k) : CallD T (.builtin "repr") reprF := by
  intro pins s σ H vs us Q I r ⟨F, ds, fh, at_, h⟩
  match ds, at_, h with
  | [d], at_, h =>
    obtain ⟨v, rfl, i⟩ := at_.one
    simp only [reprF] at h
    split at h
    · rename_i ho
      simp only [Bool.and_eq_true, decide_eq_true_eq] at ho
      obtain ⟨⟨h1, h2⟩, h3⟩ := ho
      have q := h.val fh (.str _)
      obtain ⟨u, rfl, rx⟩ := vals1 r
      obtain ⟨as, rd⟩ := Dp.reads I _ v u (is_dp fh 60 d h1 i) rx
      have hu := c.room.units
      have hd := (py_plain 60 d h1).2
      have hsz : (py d).shown.length ≤ sizeLine := le_big h3
      cases d with
      | non => rw [i.non] at rx; cases (show u = Value.none from rx); exact PySem.P.repr_of_none ⟨.str _, H, I.tok _, ⟨_, rfl⟩, by simpa [py, PyData.shown] using q⟩
      | bl b => rw [i.bl] at rx; cases (show u = Value.bool b from rx); exact PySem.P.repr_of_bool ⟨.str _, H, I.tok _, ⟨_, rfl⟩, by simpa [py, PyData.shown] using q⟩
      | int j => rw [i.int] at rx; obtain ⟨t, rfl⟩ := rx; exact PySem.P.repr_of_int (by simpa [py, PyData.showable] using h2) ⟨.str _, H, I.tok _, ⟨_, rfl⟩, by simpa [py, PyData.shown] using q⟩
      | str x => rw [i.str] at rx; obtain ⟨t, rfl⟩ := rx; exact PySem.P.repr_of_str ⟨.str _, H, I.tok _, ⟨_, rfl⟩, by simpa [py, PyData.shown] using q⟩ (by simpa [py, PyData.shown] using hsz)
      | lst xs =>
        obtain ⟨a, ws, rfl, _⟩ := i.lst fh
        cases rx
        exact PySem.repr_of_reads' rd h2 (PyData.noDict_hsm (noDict_py 60 _ h1)) c.grd (by omega) (fun _ _ e => e) (fun h' u tk k => ⟨.str _, H, I.kept (t' := tk) k, ⟨u, rfl⟩, q⟩) hsz
      | tup xs =>
        obtain ⟨a, ws, rfl, _⟩ := i.tup fh
        cases rx
        exact PySem.repr_of_reads' rd h2 (PyData.noDict_hsm (noDict_py 60 _ h1)) c.grd (by omega) (fun _ _ e => e) (fun h' u tk k => ⟨.str _, H, I.kept (t' := tk) k, ⟨u, rfl⟩, q⟩) hsz
      | _ => cases h1
    · exact h.elim

/-! ### sorted -/
def sortsB (ds : List D) : Bool := ds.all (okD 60) && (ds.all fun x => ds.all fun y => alike (py x) (py y)) &&
  ((ds.all fun d => match d with
    | .tup (_ :: _) => true
    | _ => false) || ds.all fun d => match d with
    | .tup _ => false
    | .non => false
    | _ => true)
def sortD (ds : List D) : List D := ds.mergeSort (dataLe false py)
def sortedF : List D → Option Rf
  | [.lst ds] => if sortsB ds then some (.own (.lst (sortD ds))) else none
  | _ => none
theorem sortsB_able {ds : List D} (h : sortsB ds = true) : AllAlike (ds.map py) ∧ Sortable (ds.map py) ∧ ∀ d ∈ ds, okD 60 d = true := by
  simp only [sortsB, Bool.and_eq_true, List.all_eq_true, Bool.or_eq_true] at h
  obtain ⟨⟨h1, h2⟩, h3⟩ := h
  refine ⟨fun a ha b hb => ?_, ?_, h1⟩
  · obtain ⟨x, hx, rfl⟩ := List.mem_map.mp ha
    obtain ⟨y, hy, rfl⟩ := List.mem_map.mp hb
    exact h2 x hx y hy
  · rcases h3 with h3 | h3
    · refine .inl fun a ha => ?_
      obtain ⟨x, hx, rfl⟩ := List.mem_map.mp ha
      have := h3 x hx
      split at this
      · rename_i y ys; exact ⟨py y, pyAll ys, by simp only [py, pyAll]⟩
      · cases this
    · refine .inr fun a ha => ?_
      obtain ⟨x, hx, rfl⟩ := List.mem_map.mp ha
      have := h3 x hx
      have ho := h1 x hx
      cases x <;> first | (simp at this; done) | (simp [okD] at ho; done) | (simp [py])
theorem each_pairs {h : Heap} : ∀ {vs : List V} {ds : List D} {us : List Value}, IsAll K cm F vs ds → Vals vs us → EachIs (fun u (p : V × D) => RelV p.1 u) us (vs.zip ds)
  | _, _, _, .nil, .nil => .nil
  | _, _, _, .cons i is, .cons r rs => .cons r (each_pairs (h := h) is rs)
theorem zip_fst : ∀ {vs : List V} {ds : List D}, vs.length = ds.length → (vs.zip ds).map (·.1) = vs ∧ (vs.zip ds).map (·.2) = ds
  | [], [], _ => ⟨rfl, rfl⟩
  | v :: vs, d :: ds, h => by
    obtain ⟨h1, h2⟩ := zip_fst (vs := vs) (ds := ds) (by simpa using h)
    simp [h1, h2]
theorem isAll_zip : ∀ {vs : List V} {ds : List D}, IsAll K cm F vs ds → ∀ p ∈ vs.zip ds, DL.Is K cm F p.1 p.2
  | _, _, .cons i is, p, hp => by
    rcases List.mem_cons.mp hp with rfl | hp
    · exact i
    · exact isAll_zip is p hp
theorem isAll_of_zip : ∀ {ps : List (V × D)}, (∀ p ∈ ps, DL.Is K cm F p.1 p.2) → IsAll K cm F (ps.map (·.1)) (ps.map (·.2))
  | [], _ => .nil
  | p :: ps, h => .cons (h p List.mem_cons_self) (isAll_of_zip fun q hq => h q (List.mem_cons_of_mem _ hq))
theorem vals_of_each : ∀ {us : List Value} {ps : List (V × D)}, EachIs (fun u (p : V × D) => RelV p.1 u) us ps → Vals (ps.map (·.1)) us
  | _, _, .nil => .nil
  | _, _, .cons r rs => .cons r (vals_of_each rs)
theorem each_reads {X : Cx} {pins : List (Addr × Obj)} {σ : L2.St} {H : Hp} {s : Shared} (I : Inv X pins σ H s) (hh : Same F H) : ∀ {vs : List V} {ds : List D} {us : List Value}, IsAll X.K cm F vs ds → (∀ d ∈ ds, okD 60 d = true) → Vals vs us → EachIs (fun u (p : V × D) => ∃ as, Reads s.heap u (py p.2) as) us (vs.zip ds)
  | _, _, _, .nil, _, .nil => .nil
  | _, _, _, .cons i is, h, .cons r rs => .cons (Dp.reads I _ _ _ (is_dp hh 60 _ (h _ List.mem_cons_self) (.inl i)) r) (each_reads I hh is (fun d hd => h d (List.mem_cons_of_mem _ hd)) rs)
theorem call_sortedF {k : Nat} (c : Cok T k) : CallD T (.builtin "sorted") sortedF := by
  intro pins s σ H vs us Q I r ⟨F, ds, fh, at_, h⟩
  match ds, at_, h with
  | [.lst ds], at_, h =>
    obtain ⟨v, rfl, i⟩ := at_.one
    simp only [sortedF] at h
    split at h
    · rename_i ho
      obtain ⟨k1, k2, k3⟩ := sortsB_able ho
      obtain ⟨a, ws, rfl, g1, g2⟩ := i.lst fh
      rw [Vals.ref1 r]
      obtain ⟨hz, its, n, dd, sl, rv, hl, e⟩ := rd_lst I g1
      have hw := g2.length
      obtain ⟨z1, z2⟩ := zip_fst hw
      have em : (ws.zip ds).map (fun p => py p.2) = ds.map py := by rw [← z2, List.map_map, z2]; rfl
      have hu := c.room.units
      refine sorted_data (bs := ws.zip ds) (enc := fun p => py p.2) (R := fun u (p : V × D) => RelV p.1 u) ⟨_, e, rfl, n, rfl⟩ (each_pairs (h := s.heap) g2 rv) (each_reads I fh g2 k3 rv) (by rw [em]; exact k1) (by rw [em]; exact k2)
        (by rw [List.length_zip, hw, Nat.min_self, ← hw]; exact hz) (fun p hp => ?_) fun out ol oe => ?_
      · have hd := (py_plain 60 p.2 (k3 p.2 (List.of_mem_zip hp).2)).2
        omega
      · obtain ⟨ep, he'⟩ := PyProof.Rows.sortedAll_at s.heap its out.toArray
        have perm := List.mergeSort_perm (ws.zip ds) (dataLe false fun p => py p.2)
        have ia : IsAll T.X.K T.cm F (((ws.zip ds).mergeSort (dataLe false fun p => py p.2)).map (·.1)) (sortD ds) := by
          have e2 : ((ws.zip ds).mergeSort (dataLe false fun p => py p.2)).map (·.2) = sortD ds := by
            unfold sortD
            refine Eq.trans ?_ (congrArg (fun l => l.mergeSort (dataLe false py)) z2)
            exact List.map_mergeSort (r := dataLe false fun (p : V × D) => py p.2) (s := dataLe false py) (f := fun (p : V × D) => p.2) (l := ws.zip ds) fun a _ b _ => rfl
          rw [← e2]
          exact isAll_of_zip fun p hp => isAll_zip g2 p ((perm.mem_iff).mp hp)
        have vo := vals_of_each oe
        have hlen : (((ws.zip ds).mergeSort (dataLe false fun p => py p.2)).map (·.1)).length ≤ sizeLine := by
          rw [List.length_map, perm.length_eq, List.length_zip, hw, Nat.min_self, ← hw]; exact hz
        exact ⟨.ref _, _, I.laid (t' := s.toks) (fun _ _ => PyProof.Rows.sortedAll_old) (Nat.le_succ _) (show ObjOk _ _ _ _ _ (.lst _) from ⟨hlen, out, ep, vo, by simpa using he'⟩), rfl, h.newLst fh ia _ (I.hok.fresh (Nat.le_succ _))⟩
    · exact h.elim

/-! ### join -/
def strsD : List D → Option (List Str)
  | [] => some []
  | .str i :: ds => (strsD ds).map (i :: ·)
  | _ => none
theorem strsD_map : ∀ (ns : List Str), strsD (ns.map .str) = some ns
  | [] => rfl
  | i :: ns => by simp [strsD, strsD_map ns]
theorem strsD_vs : ∀ {ds : List D} {ns : List Str} {vs : List V}, strsD ds = some ns → IsAll K cm F vs ds → vs = ns.map .str
  | [], ns, vs, e, i => by cases e; cases i; rfl
  | d :: ds, ns, vs, e, i => by
    cases i with
    | cons i is =>
      cases d <;> first | (cases e; done) | skip
      rename_i j
      simp only [strsD, Option.map_eq_some_iff] at e
      obtain ⟨ms, e1, rfl⟩ := e
      rw [IsT.str (H := F) (.inl i), strsD_vs e1 is]
      rfl
def joinD (a : Str) (ds : List D) : Option Rf := (strsD ds).bind fun ys => if (ys.map (·.length)).sum + ys.length * a.length ≤ 16777216 then some (.dat (.str (Txt.join a ys))) else none
def joinF : D → D → Option Rf
  | .str a, .lst ds => joinD a ds
  | .str a, .tup ds => joinD a ds
  | _, _ => none
end

section
variable {T : Tx} {o e a b : Expr} {co ca cb : M Rf} {pos apos cpos : Pos}
/-- a method of a text with one argument -/
def tM1D (T : Tx) (B F0 : Hp) (c : M Rf) : TE := tS T B F0 c
def isStr : Rf → Bool
  | .dat (.str _) => true
  | _ => false
def sStr1 (f : D → D → Option Rf) (a b : M Rf) : M Rf := bnd a fun x => if isStr x then bnd (opnd b) fun y => app2 f x y else fail
theorem str1_weak {f : D → D → Option Rf} {r : V → List V → Hp → VK → Prop} (hr : ∀ x y H Q, rD2 T f x y H Q → r x [y] H Q) {B F0 : Hp} {σ : L2.St} {H : Hp} {Q : VK} (h : tS T B F0 (sStr1 f ca cb) σ H Q) : tM1 r (tS T B F0 ca) (tS T B F0 (opnd cb)) σ H Q := by
  obtain ⟨F, Γ, q⟩ := h
  refine ⟨F, Γ, q.bnd.mono fun x F1 Γ1 H1 q1 S1 r1 v hv => ?_⟩
  cases hx : isStr x with
  | false => rw [hx] at r1; exact r1.2.elim
  | true =>
    rw [hx] at r1
    refine ⟨?_, F1, Γ1, r1.bnd.mono fun y F2 Γ2 H2 q2 S2 r2 u hu => hr _ _ _ _ (r2.app2 hv q2 hu)⟩
    unfold isStr at hx
    split at hx
    · exact ⟨_, IsT.str (H := H1) (.inl hv)⟩
    · cases hx
theorem re_join (ha : RE T o co) (hb : RE T e cb) (hs : starEach [e] T.X.env = [(false, eval e T.X.env)] := by rfl) (hbase : attributeBase o "join" T.X.env (eval o T.X.env) = eval o T.X.env := by rfl) (hline : (apos.endLine == pos.line) = true := by rfl) :
    RE T (.Call (.Attribute o "join" apos) [e] [] pos) (sStr1 joinF co cb) := fun B F0 =>
  (pe_m1 PySem.F.slot_str_join PySem.F.type_str_join mt_join (ha B F0) (re_opnd hb B F0) hs hbase hline).weak fun σ H Q h => str1_weak (fun x y H Q ⟨F, d1, d2, fh, i1, i2, h⟩ => by
    have go : ∀ (z : Str) (ds : List D) (p : Addr) (ws : List V), IsAll T.X.K T.cm F ws ds ∨ IsAll T.X.K T.cm F ws ds → (SqL T.X.K H p ws ∨ SqT T.X.K H p ws) → x = .str z → y = .ref p → Res T F H Q (joinD z ds) →
        ∃ a p, ∃ ys : List Str, x = .str a ∧ [y] = [.ref p] ∧ (SqL T.X.K H p (ys.map V.str) ∨ SqT T.X.K H p (ys.map V.str)) ∧ (ys.map (·.length)).sum + ys.length * a.length ≤ 16777216 ∧ Q (.str (Txt.join a ys)) H := fun z ds p ws i hp hx hy h => by
      have i : IsAll T.X.K T.cm F ws ds := i.elim id id
      unfold joinD at h
      rcases e : strsD ds with _ | ys
      · rw [e] at h; exact h.elim
      · rw [e] at h
        simp only [Option.bind_some] at h
        split at h
        · rename_i hz
          have ew := strsD_vs e i
          subst ew
          exact ⟨z, p, ys, hx, by rw [hy], hp, hz, h.val fh (.str _)⟩
        · exact h.elim
    match d1, d2, i1, i2, h with
    | .str z, .lst ds, i1, i2, h =>
      obtain ⟨p, ws, rfl, g1, g2⟩ := i2.rdL fh
      exact go z ds p ws (.inl g2) (.inl g1) i1.str rfl h
    | .str z, .tup ds, i1, i2, h =>
      obtain ⟨p, ws, rfl, g1, g2⟩ := i2.tup fh
      exact go z ds p ws (.inl g2) (.inr g1) i1.str rfl h) h

/-! ### a[b] -/
def ixD : D → D → Option Rf
  | .lst ds, .int i => (atI ds i).map .dat
  | .tup ds, .int i => (atI ds i).map .dat
  | .str x, .int i => if x.length ≤ big then (atI x.cps.toList i).map fun c => .dat (.str ⟨#[c]⟩) else none
  | _, _ => none
theorem atI_get {K : PySem.W.Frag} {cm : Nat → Addr} {F : Hp} {vs : List V} {ds : List D} {i : Int} {d : D} (h : IsAll K cm F vs ds) (e : atI ds i = some d) : ∃ v, atI vs i = some v ∧ DL.Is K cm F v d := by
  unfold atI at e ⊢
  rw [h.length]
  rcases q : ixN ds.length i with _ | j
  · rw [q] at e; cases e
  · rw [q] at e
    exact h.get e
theorem _root_.L2.IxR.imp {X : Cx} {r r' : R2} (h : IxR X r) (i : ∀ x y H Q, r' x y H Q → r x y H Q) : IxR X r' := fun value slice pins s σ H x y v u Q I rx ry q hs => h value slice pins s σ H x y v u Q I rx ry (i _ _ _ _ q) hs
theorem ix_D : IxR T.X (rD2 T ixD) := ix_seq.imp fun x y H Q ⟨F, d1, d2, fh, i1, i2, h⟩ => by
  match d1, d2, i1, i2, h with
  | .lst ds, .int i, i1, i2, h =>
    obtain ⟨a, ws, rfl, g1, g2⟩ := i1.rdL fh
    rcases e : atI ds i with _ | d
    · simp only [ixD, e, Option.map_none] at h; exact h.elim
    · simp only [ixD, e, Option.map_some] at h
      obtain ⟨v, k1, k2⟩ := atI_get g2 e
      exact .inl ⟨a, ws, i, v, rfl, i2.int, g1, k1, h.val fh k2⟩
  | .tup ds, .int i, i1, i2, h =>
    obtain ⟨a, ws, rfl, g1, g2⟩ := i1.tup fh
    rcases e : atI ds i with _ | d
    · simp only [ixD, e, Option.map_none] at h; exact h.elim
    · simp only [ixD, e, Option.map_some] at h
      obtain ⟨v, k1, k2⟩ := atI_get g2 e
      exact .inr (.inl ⟨a, ws, i, v, rfl, i2.int, g1, k1, h.val fh k2⟩)
  | .str z, .int i, i1, i2, h =>
    simp only [ixD] at h
    split at h
    · rename_i hz
      rcases e : atI z.cps.toList i with _ | d
      · simp only [e, Option.map_none] at h; exact h.elim
      · simp only [e, Option.map_some] at h
        exact .inr (.inr ⟨z, i, d, i1.str, i2.int, le_big hz, e, h.val fh (.str _)⟩)
    · exact h.elim
theorem re_ix (ha : RE T a ca) (hb : RE T b cb) (hs : PlainIx b := by exact fun _ _ => rfl) : RE T (.Subscript a b pos) (sBin ixD ca cb) := fun B F0 =>
  (pe_ix ix_D (re_opnd ha B F0) (re_opnd hb B F0) hs).weak fun _ _ _ h => op_weak h

/-! ### a[lo:hi] -/
def tOI (T : Tx) (B F0 : Hp) (c : M (Option Int)) : TO := fun σ H Q => ∃ F Γ, Run T B F0 c F Γ σ H fun o F' Γ' H' => Q o H'
def RO (T : Tx) (e : Option Expr) (c : M (Option Int)) : Prop := ∀ B F0, PO T.X e (tOI T B F0 c)
theorem _root_.L2.PO.weak {X : Cx} {e : Option Expr} {t t' : TO} (h : PO X e t) (w : ∀ σ H Q, t' σ H Q → t σ H Q) : PO X e t' := ⟨fun pins s σ H Q I q => h.run pins s σ H Q I (w σ H Q q)⟩
def sPart (c : M Rf) : M (Option Int) := bnd (opnd c) fun r => match r with
  | .dat (.int i) => ret (some i)
  | _ => fail
theorem roN : RO T none (ret none) := fun B F0 => po_none.weak fun σ H Q ⟨F, Γ, r⟩ => r.ret.2
theorem roS (h : RE T e ca) : RO T (some e) (sPart ca) := fun B F0 => (po_some (re_opnd h B F0)).weak fun σ H Q ⟨F, Γ, r⟩ => ⟨F, Γ, r.bnd.mono fun x F1 Γ1 H1 q1 S1 r1 v hv => by
  split at r1
  · exact ⟨_, IsT.int (H := H1) (.inl hv), r1.ret.2⟩
  · exact r1.2.elim⟩
def cutD (xs : List D) (lo hi : Option Int) : List D := (xs.drop (HT.sIx xs.length 0 lo)).take (HT.sIx xs.length xs.length hi - HT.sIx xs.length 0 lo)
theorem isAll_cut {K : PySem.W.Frag} {cm : Nat → Addr} {F : Hp} {vs : List V} {ds : List D} {lo hi : Option Int} (h : IsAll K cm F vs ds) : IsAll K cm F (cutV vs lo hi) (cutD ds lo hi) := by
  unfold cutV cutD
  rw [h.length]
  exact (h.drop _).take _
def sliF : D → Option Int → Option Int → Option Rf
  | .lst ds, lo, hi => some (.own (.lst (cutD ds lo hi)))
  | .tup ds, lo, hi => some (.dat (.tup (cutD ds lo hi)))
  | .str x, lo, hi => if x.length ≤ big then some (.dat (.str (cutS x lo hi))) else none
  | _, _, _ => none
def sSli (a : M Rf) (lo hi : M (Option Int)) : M Rf := bnd (opnd a) fun x => bnd lo fun l => bnd hi fun u => fun Γ => match rsv Γ x with
  | some d => lift (sliF d l u) Γ
  | none => none
def rSli (T : Tx) : V → Option Int → Option Int → Hp → VK → Prop := fun x lo hi H Q => ∃ F d, Same F H ∧ IsT T.X.K T.cm F H x d ∧ Res T F H Q (sliF d lo hi)
theorem _root_.L2.SlR.imp {X : Cx} {r r' : V → Option Int → Option Int → Hp → VK → Prop} (h : SlR X r) (i : ∀ x l u H Q, r' x l u H Q → r x l u H Q) : SlR X r' := fun pins s σ H x v vl vu lo hi sl Q I rx hs pl pu q => h pins s σ H x v vl vu lo hi sl Q I rx hs pl pu (i _ _ _ _ _ q)
theorem cutD_whole {ds : List D} {lo hi : Option Int} (h : HT.sIx ds.length 0 lo = 0 ∧ HT.sIx ds.length ds.length hi = ds.length) : cutD ds lo hi = ds := by
  unfold cutD
  rw [h.1, h.2]
  simp
theorem sl_D : SlR T.X (rSli T) := ((sl_list.or sl_tupA).or sl_str).imp fun x lo hi H Q ⟨F, d, fh, i, h⟩ => by
  match d, i, h with
  | .lst ds, i, h =>
    obtain ⟨a, ws, rfl, g1, g2⟩ := i.rdL fh
    exact .inl (.inl ⟨a, ws, rfl, g1, h.newLst fh (isAll_cut g2)⟩)
  | .tup ds, i, h =>
    obtain ⟨a, ws, rfl, g1, g2⟩ := i.tup fh
    refine .inl (.inr ⟨a, ws, rfl, g1, fun hw => ?_, fun _ => h.newTup fh (isAll_cut g2)⟩)
    rw [g2.length] at hw
    simp only [sliF, cutD_whole hw] at h
    rcases i with i | ⟨b, ho, _, _, i⟩
    · exact h _ _ _ (.refl fh) i
    · cases i
  | .str z, i, h =>
    simp only [sliF] at h
    split at h
    · rename_i hz
      exact .inr ⟨z, i.str, le_big hz, h.val fh (.str _)⟩
    · exact h.elim
theorem re_sli {lo hi : Option Expr} {cl ch : M (Option Int)} {p2 : Pos} (ha : RE T a ca) (hl : RO T lo cl) (hh : RO T hi ch) : RE T (.Subscript a (.Slice lo hi none p2) pos) (sSli ca cl ch) := fun B F0 =>
  (pe_slice sl_D (re_opnd ha B F0) (hl B F0) (hh B F0)).weak fun σ H Q ⟨F, Γ, r⟩ => ⟨F, Γ, r.bnd.mono fun x F1 Γ1 H1 q1 S1 r1 v hv => ⟨F1, Γ1, r1.bnd.mono fun l F2 Γ2 H2 q2 S2 r2 => ⟨F2, Γ2, r2.bnd.mono fun u F3 Γ3 H3 q3 S3 r3 => by
    obtain ⟨S, r3⟩ := r3
    rcases e1 : rsv Γ3 x with _ | d
    · simp only [e1] at r3
    · exact ⟨F3, d, S.fh, hv.rsv (q2.trans q3) S e1, Run.lift (Γ := Γ3) ⟨S, by simpa only [e1] using r3⟩⟩⟩⟩⟩

/-! ### methods that change a list -/
def ownB (p : D → Bool) (r : Rf) : M Unit := fun Γ => match r with
  | .slot i => match Γ[i]? with
    | some (.own d) => if p d then some (.ok (), Γ) else none
    | _ => none
  | _ => none
def isLst : D → Bool
  | .lst _ => true
  | _ => false
def sMut (p : D → Bool) (φ : Fm) (a : M Rf) (cs : M (List D)) : M Rf := bnd a fun r => bnd (ownB p r) fun _ => bnd cs fun ds => lendA φ r ds
theorem Run.ownB {p : D → Bool} {r0 : Rf} {B F0 F : Hp} {Γ : List Sl} {σ : L2.St} {H : Hp} {P : Unit → Hp → List Sl → Hp → Prop} (r : Run T B F0 (DL.ownB p r0) F Γ σ H P) : ∃ i d, r0 = .slot i ∧ Γ[i]? = some (.own d) ∧ p d = true ∧ T.Sat B F0 F Γ σ H ∧ P () F Γ H := by
  obtain ⟨S, r⟩ := r
  unfold DL.ownB at r
  cases r0 with
  | dat d => exact r.elim
  | own d => exact r.elim
  | slot i =>
    simp only at r
    rcases q : Γ[i]? with _ | sl
    · simp only [q] at r
    · cases sl with
      | un => simp only [q] at r
      | dat d => simp only [q] at r
      | own d =>
        simp only [q] at r
        by_cases hp : p d = true
        · rw [if_pos hp] at r
          exact ⟨i, d, rfl, q, hp, S, r F H (.refl _) S⟩
        · rw [if_neg hp] at r; exact r.elim
/-- a builtin method that changes its list by φ -/
def MutD (T : Tx) (r : V → List V → Hp → VK → Prop) (φ : Fm) : Prop := ∀ (F H : Hp) (a : Addr) (ho : HO) (d0 : D) (vs : List V) (ds : List D) (r0 : Ans) (d1 : D) (Q : VK) (E : XK), Same F H → F a = none → H a = some ho → OwnIs T.X.K T.cm F ho d0 → IsAll T.X.K T.cm F vs ds → φ d0 ds = some (r0, d1) → ResM T.X.K T.cm a F H Q E d1 r0 → r (.ref a) vs H Q
theorem step_upd {F H : Hp} {a : Addr} {o : HO} (fh : Same F H) (fa : F a = none) : StepM a F H F (upd H a o) :=
  ⟨fun b o hb e => by rw [upd_ne hb]; exact e, .refl _, fun b o e => by rw [upd_ne (ne_of_none e fa)]; exact fh _ _ e, fun _ _ e => .inl e⟩
variable {es : List Expr} {cs : M (List D)} {name : Str} {id : String} {r : V → List V → Hp → VK → Prop} {φ : Fm}
theorem re_mut (hm : MtM T.X id r) (hr : MutD T r φ) (slot : Slot "list" name id) (hty : typeOf (.builtin id) = pure (.type "method_descriptor")) (ho : RE T o co) (ha : RA T (e :: es) cs)
    (hbase : attributeBase o name T.X.env (eval o T.X.env) = eval o T.X.env := by rfl)
    (hfew : ((backTo cpos (starEach (e :: es) T.X.env)).all (fun x => !x.1) && (backToKw cpos (keywordEach [] T.X.env)).all (fun x => x.1.isSome)
      && decide ((e :: es).length + ([] : List Keyword).length + (if ([] : List Keyword).isEmpty then 0 else 1) < 30)) = true := by rfl)
    (hline : (apos.endLine == cpos.line) = true := by rfl) (hs : starEach (e :: es) T.X.env = (false, eval e T.X.env) :: starEach es T.X.env := by rfl) (hplain : (backTo cpos (starEach es T.X.env)).any (·.1) = false := by rfl) :
    RE T (.Call (.Attribute o name apos) (e :: es) [] cpos) (sMut isLst φ co cs) := fun B F0 =>
  (pe_bm PySem.F.plainAttrs_list slot hty hm (ho B F0) (ha B F0) hbase hfew hline hs hplain).weak fun σ H Q ⟨F, Γ, q⟩ => ⟨F, Γ, q.bnd.mono fun x F1 Γ1 H1 q1 S1 r1 v hv => by
    obtain ⟨i, d, rfl, hi, hp, _, r2⟩ := r1.bnd.ownB
    obtain ⟨a, ho, g1, g2, g3, g4, g5⟩ := S1.ow i d hi
    have hv1 := hv.1
    rw [g1] at hv1; injection hv1 with hv1; injection hv1 with hv1; subst hv1
    have ty : tyV T.X.K "list" (.ref a) H1 := by
      cases d <;> first | (cases hp; done) | skip
      cases g5 with
      | lst hs => exact .inl ⟨rfl, _, .of g4⟩
    refine ⟨ty, F1, Γ1, r2.bnd.mono fun ds F2 Γ2 H2 q2 S2 r3 vs hvs => ?_⟩
    obtain ⟨a', ho', d0, r0, d1, e1, h1, h2, h3, h4, h5⟩ := Run.lendX r3 g1
    injection e1 with e1; subst e1
    exact hr F2 H2 a ho' d0 vs ds r0 d1 Q _ S2.fh h1 h2 h3 hvs h4 h5⟩
theorem re_mut0 (hm : MtM T.X id r) (hr : MutD T r φ) (slot : Slot "list" name id) (hty : typeOf (.builtin id) = pure (.type "method_descriptor")) (ho : RE T o co)
    (hbase : attributeBase o name T.X.env (eval o T.X.env) = eval o T.X.env := by rfl) (hline : (apos.endLine == cpos.line) = true := by rfl) :
    RE T (.Call (.Attribute o name apos) [] [] cpos) (sMut isLst φ co sNil) := fun B F0 =>
  (pe_bm0 PySem.F.plainAttrs_list slot hty hm (ho B F0) hbase hline).weak fun σ H Q ⟨F, Γ, q⟩ => ⟨F, Γ, q.bnd.mono fun x F1 Γ1 H1 q1 S1 r1 v hv => by
    obtain ⟨i, d, rfl, hi, hp, _, r2⟩ := r1.bnd.ownB
    obtain ⟨a, ho, g1, g2, g3, g4, g5⟩ := S1.ow i d hi
    have hv1 := hv.1
    rw [g1] at hv1; injection hv1 with hv1; injection hv1 with hv1; subst hv1
    have ty : tyV T.X.K "list" (.ref a) H1 := by
      cases d <;> first | (cases hp; done) | skip
      cases g5 with
      | lst hs => exact .inl ⟨rfl, _, .of g4⟩
    have r3 : Run T B F0 (lendA φ (.slot i) []) F1 Γ1 σ H1 _ := r2.bnd.ret.2
    obtain ⟨a', ho', d0, r0, d1, e1, h1, h2, h3, h4, h5⟩ := Run.lendX r3 g1
    injection e1 with e1; subst e1
    exact ⟨ty, hr F1 H1 a ho' d0 [] [] r0 d1 Q _ S1.fh h1 h2 h3 .nil h4 h5⟩⟩
def appendM : Fm
  | .lst xs, [d] => if xs.length < big then some (.ok (.dat .non), .lst (xs ++ [d])) else none
  | _, _ => none
theorem mut_append : MutD T rAppend appendM := fun F H a ho d0 vs ds r0 d1 Q E fh fa ha hod i hφ hres => by
  match d0, ds, i, hφ with
  | .lst xs, [d], i, hφ =>
    simp only [appendM] at hφ
    split at hφ
    · rename_i hz
      simp only [Option.some.injEq, Prod.mk.injEq] at hφ
      obtain ⟨rfl, rfl⟩ := hφ
      cases hod with
      | lst hs =>
        cases i with
        | cons ix is =>
          cases is
          refine ⟨a, _, _, rfl, rfl, ha, by rw [hs.length]; exact lt_big hz, ?_⟩
          exact hres .non _ F _ (step_upd fh fa) upd_same (.lst (hs.append (.cons ix .nil))) .non
    · cases hφ
theorem re_append (ho : RE T o co) (ha : RA T [e] cs)
    (hbase : attributeBase o "append" T.X.env (eval o T.X.env) = eval o T.X.env := by rfl)
    (hfew : ((backTo cpos (starEach [e] T.X.env)).all (fun x => !x.1) && (backToKw cpos (keywordEach [] T.X.env)).all (fun x => x.1.isSome)
      && decide ([e].length + ([] : List Keyword).length + (if ([] : List Keyword).isEmpty then 0 else 1) < 30)) = true := by rfl)
    (hline : (apos.endLine == cpos.line) = true := by rfl) (hs : starEach [e] T.X.env = (false, eval e T.X.env) :: starEach [] T.X.env := by rfl) (hplain : (backTo cpos (starEach [] T.X.env)).any (·.1) = false := by rfl) :
    RE T (.Call (.Attribute o "append" apos) [e] [] cpos) (sMut isLst appendM co cs) := re_mut mt_append mut_append PySem.F.slot_list_append PySem.F.type_list_append ho ha hbase hfew hline hs hplain
def popM : Fm
  | .lst xs, [] => match xs[xs.length - 1]? with
    | some d => some (.ok (.dat d), .lst xs.dropLast)
    | none => none
  | .lst xs, [.int i] => if sm62 i then match seqIndex? i xs.length with
      | some k => match xs[k]? with
        | some d => some (.ok (.dat d), .lst (xs.eraseIdx k))
        | none => none
      | none => none
    else none
  | _, _ => none
theorem isAll_dropLast {K : PySem.W.Frag} {cm : Nat → Addr} {F : Hp} {vs : List V} {ds : List D} (h : IsAll K cm F vs ds) : IsAll K cm F vs.dropLast ds.dropLast := by
  rw [List.dropLast_eq_take, List.dropLast_eq_take, h.length]
  exact h.take _
theorem isAll_erase {K : PySem.W.Frag} {cm : Nat → Addr} {F : Hp} : ∀ {vs : List V} {ds : List D} (k : Nat), IsAll K cm F vs ds → IsAll K cm F (vs.eraseIdx k) (ds.eraseIdx k)
  | _, [], k, h => by cases h; exact .nil
  | _, d :: ds, 0, h => by cases h with | cons i is => exact is
  | _, d :: ds, k + 1, h => by cases h with | cons i is => exact .cons i (isAll_erase k is)
theorem mut_pop : MutD T rPop (fun d ds => if ds = [] then popM d [] else none) := fun F H a ho d0 vs ds r0 d1 Q E fh fa ha hod i hφ hres => by
  simp only at hφ
  split at hφ
  · rename_i e
    subst e
    cases i
    match d0, hφ with
    | .lst xs, hφ =>
      simp only [popM] at hφ
      split at hφ
      · rename_i d hd
        simp only [Option.some.injEq, Prod.mk.injEq] at hφ
        obtain ⟨rfl, rfl⟩ := hφ
        cases hod with
        | lst hs =>
          obtain ⟨v, h1, h2⟩ := hs.get hd
          exact ⟨a, _, v, rfl, rfl, ha, by rw [hs.length]; exact h1, hres v _ F _ (step_upd fh fa) upd_same (.lst (isAll_dropLast hs)) h2⟩
      · cases hφ
  · cases hφ
theorem mut_popAt : MutD T rPopAt (fun d ds => match ds with
    | [.int i] => popM d [.int i]
    | _ => none) := fun F H a ho d0 vs ds r0 d1 Q E fh fa ha hod i hφ hres => by
  match ds, i, hφ with
  | [.int j], i, hφ =>
    cases i with
    | cons ix is =>
      cases is
      match d0, hφ with
      | .lst xs, hφ =>
        simp only [popM] at hφ
        split at hφ
        · rename_i hj
          simp only [sm62, Bool.and_eq_true, decide_eq_true_eq] at hj
          split at hφ
          · rename_i k hk
            split at hφ
            · rename_i d hd
              simp only [Option.some.injEq, Prod.mk.injEq] at hφ
              obtain ⟨rfl, rfl⟩ := hφ
              cases hod with
              | lst hs =>
                obtain ⟨v, h1, h2⟩ := hs.get hd
                exact ⟨a, _, j, k, v, rfl, by rw [IsT.int (H := H) (.inl ix)], ha, by omega, by omega, by rw [hs.length]; exact hk, h1, hres v _ F _ (step_upd fh fa) upd_same (.lst (isAll_erase k hs)) h2⟩
            · cases hφ
          · cases hφ
        · cases hφ
end
end DL

/-! DL9: list comprehensions. -/
namespace DL
open PySem L2 PyProof.Rows

/-- the context of a comprehension's block -/
abbrev Tx.blk (T : Tx) (s : Shared) (H : Hp) (scope : Scope) (cenv : Env) (fp : List Addr) : Tx := { X := T.X.blk s H scope cenv fp, cm := T.cm, W := fun _ _ _ _ => False, io := T.io }
theorem Cok.blk {T : Tx} {k : Nat} (c : Cok T k) (s : Shared) (H : Hp) (scope : Scope) (cenv : Env) (fp : List Addr) : Cok (T.blk s H scope cenv fp) k :=
  ⟨c.room, c.grd, c.calm, c.nd, takes0, PassesOwn.never⟩

/-! ### slots of the block's own names -/
def wipeG (Γ : List Sl) : List Nat → List Sl
  | [] => Γ
  | v :: vs => (wipeG Γ vs).set v .un
def keepD : Option Sl → Sl
  | some (.dat d) => .dat d
  | _ => .un
/-- behind the block the slots are what they were -/
def unwipe (Γ1 Γ2 : List Sl) : List Nat → List Sl
  | [] => Γ2
  | v :: vs => (unwipe Γ1 Γ2 vs).set v (keepD Γ1[v]?)
theorem unwipe_get {Γ1 Γ2 : List Sl} {j : Nat} {sl : Sl} : ∀ {vs : List Nat}, (unwipe Γ1 Γ2 vs)[j]? = some sl → (j ∈ vs ∧ sl = keepD Γ1[j]?) ∨ (j ∉ vs ∧ Γ2[j]? = some sl)
  | [], h => .inr ⟨by simp, h⟩
  | v :: vs, h => by
    rcases get_set h with ⟨rfl, _, q⟩ | ⟨hj, q⟩
    · exact .inl ⟨List.mem_cons_self, q⟩
    · rcases unwipe_get q with ⟨h1, h2⟩ | ⟨h1, h2⟩
      · exact .inl ⟨List.mem_cons_of_mem _ h1, h2⟩
      · exact .inr ⟨by simp only [List.mem_cons, not_or]; exact ⟨hj, h1⟩, h2⟩
theorem unwipe_len {Γ1 Γ2 : List Sl} : ∀ {vs : List Nat}, (unwipe Γ1 Γ2 vs).length = Γ2.length
  | [] => rfl
  | v :: vs => by unfold unwipe; rw [List.length_set]; exact unwipe_len
theorem wipe_ne {σ : L2.St} {j : Nat} : ∀ {vs : List Nat}, j ∉ vs → (wipe σ vs)[j]? = σ[j]?
  | [], _ => rfl
  | v :: vs, h => by
    simp only [List.mem_cons, not_or] at h
    unfold wipe
    rw [List.getElem?_set_ne (Ne.symm h.1)]
    exact wipe_ne h.2
theorem wipe_mem {σ : L2.St} {j : Nat} : ∀ {vs : List Nat}, j ∈ vs → (wipe σ vs)[j]? = none ∨ (wipe σ vs)[j]? = some none
  | v :: vs, h => by
    unfold wipe
    by_cases hj : j = v
    · subst hj
      by_cases hl : j < (wipe σ vs).length
      · exact .inr (List.getElem?_set_self hl)
      · exact .inl (List.getElem?_eq_none (by simpa using hl))
    · rw [List.getElem?_set_ne (Ne.symm hj)]
      rcases List.mem_cons.mp h with h | h
      · exact absurd h hj
      · exact wipe_mem h
theorem wipe_wipe {σ : L2.St} {vs : List Nat} : wipe (wipe σ vs) vs = wipe σ vs := by
  apply List.ext_getElem?
  intro j
  by_cases hj : j ∈ vs
  · have l1 : (wipe (wipe σ vs) vs).length = (wipe σ vs).length := wipe_length _ _
    rcases wipe_mem (σ := wipe σ vs) hj with h | h <;> rcases wipe_mem (σ := σ) hj with h' | h'
    · rw [h, h']
    · have a1 := List.getElem?_eq_none_iff.mp h
      have a2 := (List.getElem?_eq_some_iff.mp h').1
      omega
    · have a1 := List.getElem?_eq_none_iff.mp h'
      have a2 := (List.getElem?_eq_some_iff.mp h).1
      omega
    · rw [h, h']
  · rw [wipe_ne hj]
section
variable {K : PySem.W.Frag} {cm : Nat → Addr} {io : Option Addr} {B F0 F F1 F2 : Hp} {Γ Γ1 Γ2 : List Sl} {σ : L2.St} {H H1 H2 : Hp} {vs : List Nat}
theorem Sat.wipeW (S : Sat K cm io B F0 F Γ σ H) : ∀ {vs : List Nat}, (∀ v ∈ vs, io = none ∨ v ≠ 0) → Sat K cm io B F0 F (wipeG Γ vs) (wipe σ vs) H
  | [], _ => S
  | v :: vs, h => (Sat.wipeW S (vs := vs) fun w hw => h w (List.mem_cons_of_mem _ hw)).wipe1 (h v List.mem_cons_self)
theorem Sat.rewipe {σ2 : L2.St} (S : Sat K cm io B F0 F Γ σ2 H) (hio : ∀ v ∈ vs, io = none ∨ v ≠ 0) (e : wipe σ2 vs = wipe σ vs) : Sat K cm io B F0 F (wipeG Γ vs) (wipe σ vs) H := by
  rw [← e]
  exact S.wipeW hio
theorem Sat.unwipe (S1 : Sat K cm io B F0 F1 Γ1 σ H1) (S2 : Sat K cm io B F0 F2 Γ2 (wipe σ vs) H2) (q : Same F1 F2) : Sat K cm io B F0 F2 (DL.unwipe Γ1 Γ2 vs) σ H2 where
  fh := S2.fh
  bh := S2.bh
  f0 := S2.f0
  nw := S2.nw
  len := by rw [unwipe_len, S2.len, wipe_length]
  dt := fun i d e => by
    rcases unwipe_get e with ⟨h1, h2⟩ | ⟨h1, h2⟩
    · unfold keepD at h2
      split at h2
      · rename_i d' hd
        cases h2
        obtain ⟨v, g1, g2⟩ := S1.dt i _ hd
        exact ⟨v, g1, g2.mono q _⟩
      · cases h2
    · obtain ⟨v, g1, g2⟩ := S2.dt i d h2
      exact ⟨v, by rw [← wipe_ne h1]; exact g1, g2⟩
  ow := fun i d e => by
    rcases unwipe_get e with ⟨h1, h2⟩ | ⟨h1, h2⟩
    · unfold keepD at h2; split at h2 <;> cases h2
    · obtain ⟨a, ho, g1, g2⟩ := S2.ow i d h2
      exact ⟨a, ho, by rw [← wipe_ne h1]; exact g1, g2⟩
  ap := fun i j d e a h1 h2 h3 h4 => by
    rcases unwipe_get h1 with ⟨_, k2⟩ | ⟨k1, k2⟩
    · unfold keepD at k2; split at k2 <;> cases k2
    · rcases unwipe_get h2 with ⟨_, m2⟩ | ⟨m1, m2⟩
      · unfold keepD at m2; split at m2 <;> cases m2
      · exact S2.ap i j d e a k2 m2 (by rw [wipe_ne k1]; exact h3) (by rw [wipe_ne m1]; exact h4)
  ioA := S1.ioA
/-- a list that grows beside the frame -/
theorem Sat.side (S : Sat K cm io B F0 F Γ σ H) {p : Addr} (hF : F p = none) {o : HO} (hH : H p = none ∨ (B p = none ∧ ∀ (i : Nat) (d : D), Γ[i]? = some (.own d) → σ[i]? ≠ some (some (.ref p)))) :
    Sat K cm io (upd B p o) F0 F Γ σ (upd H p o) := by
  have hB : B p = none := by
    rcases hH with h | h
    · exact S.bh.free h
    · exact h.1
  have hn : ∀ (i : Nat) (d : D), Γ[i]? = some (.own d) → σ[i]? ≠ some (some (.ref p)) := by
    rcases hH with h | h
    · intro i d e hs
      obtain ⟨a, ho, g1, _, _, g4, _⟩ := S.ow i d e
      rw [g1] at hs; injection hs with hs; injection hs with hs; injection hs with hs; subst hs
      rw [h] at g4; cases g4
    · exact h.2
  refine ⟨fun b u e => ?_, fun b u e => ?_, S.f0, fun q u e => ?_, S.len, S.dt, fun i d e => ?_, S.ap, S.ioA⟩
  · rw [upd_ne (ne_of_none e hF)]; exact S.fh b u e
  · by_cases hb : b = p
    · subst hb; rw [upd_same] at e ⊢; exact e
    · rw [upd_ne hb] at e ⊢; exact S.bh b u e
  · rcases S.nw q u e with h | h
    · exact .inl h
    · exact .inr (by rw [upd_ne (ne_of_none e hF)]; exact h)
  · obtain ⟨a, ho, h1, h2, h3, h4, h5⟩ := S.ow i d e
    have ne : a ≠ p := fun z => hn i d e (by rw [h1, z])
    exact ⟨a, ho, h1, h2, by rw [upd_ne ne]; exact h3, by rw [upd_ne ne]; exact h4, h5⟩
/-- .. is set aside again -/
theorem Sat.reside {D0 : Addr} {o o' : HO} (S : Sat K cm io (upd B D0 o) F0 F Γ σ H) (hF : F D0 = none) (hB : B D0 = none) : Sat K cm io (upd B D0 o') F0 F Γ σ (upd H D0 o') := by
  have e : upd (upd B D0 o) D0 o' = upd B D0 o' := by
    funext b
    by_cases hb : b = D0
    · subst hb; rw [upd_same, upd_same]
    · rw [upd_ne hb, upd_ne hb, upd_ne hb]
  have hn : ∀ (i : Nat) (d : D), Γ[i]? = some (.own d) → σ[i]? ≠ some (some (.ref D0)) := fun i d e1 hs => by
    obtain ⟨a, ho, g1, _, g3, _⟩ := S.ow i d e1
    rw [g1] at hs; injection hs with hs; injection hs with hs; injection hs with hs; subst hs
    rw [upd_same] at g3; cases g3
  have S' : Sat K cm io B F0 F Γ σ H := S.weakB (.up hB)
  exact S'.side hF (.inr ⟨hB, hn⟩)
end

/-! ### targets in a block -/
def tGw (T : Tx) (B F0 : Hp) (vs : List Nat) (g : D → M Unit) : TG := fun v σ H Q => ∃ F Γ d, T.Is F v d ∧ RunS T B F0 (g d) F Γ σ H fun _ F' Γ' σ' H' => wipe σ' vs = wipe σ vs → Q σ' H'
def RGw (T : Tx) (vs : List Nat) (tg : Expr) (g : D → M Unit) : Prop := ∀ B F0, PG T.X tg (tGw T B F0 vs g)
def tGsw (T : Tx) (B F0 : Hp) (vs : List Nat) (gs : List D → M Unit) : TGs := fun ws σ H Q => ∃ F Γ ds, IsAll T.X.K T.cm F ws ds ∧ RunS T B F0 (gs ds) F Γ σ H fun _ F' Γ' σ' H' => wipe σ' vs = wipe σ vs → Q σ' H'
def RGsw (T : Tx) (vs : List Nat) (ts : List Expr) (gs : List D → M Unit) : Prop := ∀ B F0, PGs T.X ts (tGsw T B F0 vs gs)
theorem wipe_set {σ : L2.St} {i : Nat} {v : Option V} {vs : List Nat} (h : i ∈ vs) : wipe (σ.set i v) vs = wipe σ vs := by
  apply List.ext_getElem?
  intro j
  by_cases hj : j ∈ vs
  · have l1 : (wipe (σ.set i v) vs).length = (wipe σ vs).length := by rw [wipe_length, wipe_length, List.length_set]
    rcases wipe_mem (σ := σ.set i v) hj with h | h <;> rcases wipe_mem (σ := σ) hj with h' | h'
    · rw [h, h']
    · have a1 := List.getElem?_eq_none_iff.mp h
      have a2 := (List.getElem?_eq_some_iff.mp h').1
      omega
    · have a1 := List.getElem?_eq_none_iff.mp h'
      have a2 := (List.getElem?_eq_some_iff.mp h).1
      omega
    · rw [h, h']
  · rw [wipe_ne hj, wipe_ne hj, List.getElem?_set_ne (fun e => hj (by rw [← e]; exact h))]
section
variable {T : Tx} {x : Str} {pos : Pos} {vs : List Nat}
theorem rgw_name (i : Nat) (hN : T.X.N.Nodup) (hm : i ∈ vs := by decide) (hi : T.X.N[i]? = some x := by rfl) (hx : Loc T.X.env.scope x := by first | exact Or.inl rfl | exact Or.inr rfl) (hio : NoIo T i := by first | exact Or.inl rfl | exact Or.inr (by decide))
    (hf : T.X.fn x = true ∨ T.X.env.scope.names.lookup x = some .local := by first | exact .inl rfl | exact .inr rfl | assumption) : RGw T vs (.Name x pos) (gSet i) := fun B F0 =>
  (pg_name hN hi hx hf).weak fun v σ H Q ⟨F, Γ, d, ix, r⟩ => (r.gSet hio ix).2 (wipe_set hm)
theorem rgsw_nil : RGsw T vs [] gNone := fun B F0 => pgs_nil.weak fun ws σ H Q ⟨F, Γ, ds, i, r⟩ => by
  cases ds with
  | nil => cases i; exact ⟨rfl, r.ret.2 rfl⟩
  | cons d ds => exact r.2.elim
theorem rgsw_cons {t : Expr} {ts : List Expr} {g : D → M Unit} {gs : List D → M Unit} (h1 : RGw T vs t g) (h2 : RGsw T vs ts gs) (hs : (assignEach (t :: ts) T.X.env).map (·.2) = assign t T.X.env :: (assignEach ts T.X.env).map (·.2) := by rfl) : RGsw T vs (t :: ts) (gMore g gs) := fun B F0 =>
  (pgs_cons (h1 B F0) (h2 B F0) hs).weak fun ws σ H Q ⟨F, Γ, ds, i, r⟩ => by
    cases ds with
    | nil => exact r.2.elim
    | cons d ds =>
      cases i with
      | cons i is => exact ⟨_, _, rfl, F, Γ, d, i, r.bnd.mono fun _ F1 Γ1 σ1 H1 q1 S1 r1 e1 => ⟨F1, Γ1, ds, is.mono q1 _, r1.mono fun _ F2 Γ2 σ2 H2 q2 S2 p e2 => p (e2.trans e1)⟩⟩
theorem rgw_tup {es : List Expr} {k n : Nat} {gs : List D → M Unit} (h : RGsw T vs es gs) (hc : T.X.calm = true) (hn : (assignEach es T.X.env).length = n := by rfl) (hst : (assignEach es T.X.env).findIdx? (·.1) = none := by rfl) : RGw T vs (.Tuple es k pos) (gTupD n gs) := fun B F0 =>
  (pg_tup hc (h B F0) hn hst).weak fun v σ H Q ⟨F, Γ, d, i, r⟩ => by
    cases d with
    | tup ds =>
      obtain ⟨a, ws, rfl, g1, g2⟩ := IsT.tup r.1.fh (.inl i)
      by_cases hl : ds.length = n
      · have r' : RunS T B F0 (gs ds) F Γ σ H fun _ F' Γ' σ' H' => wipe σ' vs = wipe σ vs → Q σ' H' := by simpa only [gTupD, if_pos hl] using r
        exact ⟨a, ws, rfl, g1, by rw [g2.length, hl], F, Γ, ds, g2, r'⟩
      · have r' := r.2
        simp only [gTupD, if_neg hl] at r'
        exact r'.elim
    | _ => exact r.2.elim
end

/-! ### the tests -/
def RTs (T : Tx) (es : List Expr) (c : M Bool) : Prop := ∀ B F0, PTs T.X es (tT T B F0 c)
theorem _root_.L2.PTs.weak {X : Cx} {e : List Expr} {t t' : TT} (h : PTs X e t) (w : ∀ σ H Q, t' σ H Q → t σ H Q) : PTs X e t' := ⟨fun pins s σ H Q I q => h.run pins s σ H Q I (w σ H Q q)⟩
theorem rts_nil {T : Tx} : RTs T [] (ret true) := fun B F0 => pts_nil.weak fun σ H Q ⟨F, Γ, r⟩ => r.ret.2
theorem rts_one {T : Tx} {e : Expr} {c : M Bool} (h : RT T e c) : RTs T [e] c := fun B F0 => pts_one (h B F0)

/-! ### [elt for target in iter if ..] -/
def loopL (g : D → M Unit) (ct : M Bool) (ce : M D) (vs : List Nat) : List D → List D → M (List D)
  | [], acc, Γ => some (.ok acc, Γ)
  | d :: ds, acc, Γ => match g d Γ with
    | some (.ok _, Γa) => match ct Γa with
      | some (.ok true, Γb) => match ce Γb with
        | some (.ok y, Γc) => if acc.length < big then loopL g ct ce vs ds (acc ++ [y]) (wipeG Γc vs) else none
        | _ => none
      | some (.ok false, Γb) => loopL g ct ce vs ds acc (wipeG Γb vs)
      | _ => none
    | _ => none
theorem loopL_cons {g : D → M Unit} {ct : M Bool} {ce : M D} {vs : List Nat} {d : D} {ds acc : List D} {Γ : List Sl} {p : Except D (List D) × List Sl} (h : loopL g ct ce vs (d :: ds) acc Γ = some p) :
    ∃ Γa, g d Γ = some (.ok (), Γa) ∧ ((∃ Γb y Γc, ct Γa = some (.ok true, Γb) ∧ ce Γb = some (.ok y, Γc) ∧ acc.length < big ∧ loopL g ct ce vs ds (acc ++ [y]) (wipeG Γc vs) = some p) ∨
      ∃ Γb, ct Γa = some (.ok false, Γb) ∧ loopL g ct ce vs ds acc (wipeG Γb vs) = some p) := by
  simp only [loopL] at h
  split at h
  · rename_i u Γa e1
    refine ⟨Γa, e1, ?_⟩
    split at h
    · rename_i Γb e2
      split at h
      · rename_i y Γc e3
        split at h
        · rename_i hz
          exact .inl ⟨Γb, y, Γc, e2, e3, hz, h⟩
        · cases h
      · cases h
    · rename_i Γb e2
      exact .inr ⟨Γb, e2, h⟩
    · cases h
  · cases h
def lcM (g : D → M Unit) (ct : M Bool) (ce : M D) (vs : List Nat) (ds : List D) : M Rf := fun Γ1 => match loopL g ct ce vs ds [] (wipeG Γ1 vs) with
  | some (.ok acc, Γ2) => some (.ok (.own (.lst acc)), unwipe Γ1 Γ2 vs)
  | _ => none
def sLc (vs : List Nat) (ci : M (List D)) (g : D → M Unit) (ct : M Bool) (ce : M Rf) : M Rf := bnd ci (lcM g ct (cap ce) vs)
section
variable {T : Tx} {elt tg iter : Expr} {ifs : List Expr} {scope : Scope} {own : List (Str × Nat)} {pos spos py : Pos} {ci : M (List D)} {g : D → M Unit} {ct : M Bool} {ce : M Rf}
/-- in which contexts the block's readings are told: all of them read alike -/
theorem lc_weak {B F0 : Hp} {σ : L2.St} {H : Hp} {Q : VK} {vs : List Nat} (Tb : Tx) (hK : Tb.X.K = T.X.K) (hcm : Tb.cm = T.cm) (hio' : Tb.io = T.io) (hio : ∀ v ∈ vs, NoIo T v) (h : tS T B F0 (sLc vs ci g ct ce) σ H Q) :
    tLc (tI T B F0 ci) (fun v σ' H' Q' => ∃ B, tGw Tb B F0 vs g v σ' H' Q') (fun σ' H' Q' => ∃ B, tT Tb B F0 ct σ' H' Q') (fun σ' H' Q' => ∃ B, tD Tb B F0 (cap ce) σ' H' Q') vs σ H Q := by
  obtain ⟨F, Γ, r⟩ := h
  refine ⟨F, Γ, r.bnd.mono fun ds F1 Γ1 H1 q1 S1 r1 J hJ Dd hD => ?_⟩
  have r2 := r1.2
  unfold lcM at r2
  rcases e : loopL g ct (cap ce) vs ds [] (wipeG Γ1 vs) with _ | ⟨x | acc, Γ2⟩
  · simp only [e] at r2
  · simp only [e] at r2
  simp only [e] at r2
  have hBD : B Dd = none := S1.bh.free hD
  have hF1D : F1 Dd = none := S1.fh.free hD
  have hF0D : F0 Dd = none := S1.f0.free hF1D
  have toB : ∀ {F' : Hp} {Γ' : List Sl} {σ' : L2.St} {H' : Hp} {B' : Hp}, T.Sat B' F0 F' Γ' σ' H' → Tb.Sat B' F0 F' Γ' σ' H' := fun S => by
    show DL.Sat Tb.X.K Tb.cm Tb.io _ _ _ _ _ _
    rw [hK, hcm, hio']
    exact S
  have ofB : ∀ {F' : Hp} {Γ' : List Sl} {σ' : L2.St} {H' : Hp} {B' : Hp}, Tb.Sat B' F0 F' Γ' σ' H' → T.Sat B' F0 F' Γ' σ' H' := fun S => by
    have S' : DL.Sat Tb.X.K Tb.cm Tb.io _ _ _ _ _ _ := S
    rw [hK, hcm, hio'] at S'
    exact S'
  have isB : ∀ {F' : Hp} {v : V} {d : D}, Tb.Is F' v d → T.Is F' v d := fun i => by
    have i' : DL.Is Tb.X.K Tb.cm _ _ _ := i
    rw [hK, hcm] at i'
    exact i'
  have isB' : ∀ {F' : Hp} {v : V} {d : D}, T.Is F' v d → Tb.Is F' v d := fun i => by
    show DL.Is Tb.X.K Tb.cm _ _ _
    rw [hK, hcm]
    exact i
  have noD : ∀ {F' : Hp} {Γ' : List Sl} {σ' : L2.St} {H' : Hp} {o : HO}, T.Sat (upd B Dd o) F0 F' Γ' σ' H' → F' Dd = none := fun {F' Γ' σ' H' o} S => by
    cases z : F' Dd with
    | none => rfl
    | some u =>
      rcases S.nw Dd u z with h | h
      · rw [hF0D] at h; cases h
      · rw [upd_same] at h; cases h
  refine ⟨fun i m H => ∃ F Γ accV accD, Same F1 F ∧ m = ds.length - i ∧ i ≤ ds.length ∧ T.Sat (upd B Dd (.lst accV)) F0 F Γ (wipe σ vs) H ∧ IsAll T.X.K T.cm F accV accD ∧ loopL g ct (cap ce) vs (ds.drop i) accD Γ = some (.ok acc, Γ2),
    ⟨ds.length, F1, wipeG Γ1 vs, [], [], .refl _, by simp, Nat.zero_le _, (S1.wipeW hio).side hF1D (.inl hD), .nil, by simpa using e⟩, ?_⟩
  rintro i m H ⟨F, Γ, accV, accD, q, rfl, hi, S, ia, el⟩
  obtain ⟨w1, w2⟩ := hJ i F H q S.fh
  have hD1 : H Dd = some (.lst accV) := S.bh _ _ upd_same
  by_cases hlt : i < ds.length
  · rw [List.drop_eq_getElem_cons hlt] at el
    obtain ⟨go, yl⟩ := w1 ds[i] (by simp [hlt])
    refine .inr ⟨go, fun H' => ∃ F Γ accV accD, Same F1 F ∧ T.Sat (upd B Dd (.lst accV)) F0 F Γ (wipe σ vs) H' ∧ IsAll T.X.K T.cm F accV accD ∧ loopL g ct (cap ce) vs (ds.drop (i + 1)) accD Γ = some (.ok acc, Γ2),
      fun H' ⟨F', Γ', aV, aD, h1, h2, h3, h4⟩ => ⟨ds.length - (i + 1), by omega, F', Γ', aV, aD, h1, rfl, hlt, h2, h3, h4⟩, fun x H' hy => ?_⟩
    obtain ⟨F2, t, ix⟩ := yl x H' hy
    have S2 := S.step t
    obtain ⟨Γa, eg, rest⟩ := loopL_cons el
    refine ⟨upd B Dd (.lst accV), F2, Γ, _, isB' ix, toB S2, ?_⟩
    rw [eg]
    intro F3 H3 σ3 q3 S3 hw3
    rw [wipe_wipe] at hw3
    have S3 := ofB S3
    refine ⟨hw3, upd B Dd (.lst accV), F3, Γa, toB S3, ?_⟩
    rcases rest with ⟨Γb, y, Γc, et, ey, hz, el'⟩ | ⟨Γb, et, el'⟩
    · rw [et]
      intro F4 H4 q4 S4
      show if true = true then _ else _
      rw [if_pos rfl]
      refine ⟨upd B Dd (.lst accV), F4, Γb, S4, ?_⟩
      rw [ey]
      intro F5 H5 q5 S5 v hv
      have S5 := ofB S5
      have hv := isB hv
      have hF5 := noD S5
      refine ⟨accV, S5.bh _ _ upd_same, by rw [ia.length]; exact lt_big hz, F5, wipeG Γc vs, accV ++ [v], accD ++ [y], (((q.trans t.ff).trans q3).trans q4).trans q5, ?_, ?_, el'⟩
      · exact (S5.rewipe hio hw3).reside hF5 hBD
      · exact (ia.mono (((t.ff).trans q3).trans (q4.trans q5)) _).append (.cons hv .nil)
    · rw [et]
      intro F4 H4 q4 S4
      show if false = true then _ else _
      rw [if_neg (by simp)]
      exact ⟨F4, wipeG Γb vs, accV, accD, ((q.trans t.ff).trans q3).trans q4, (ofB S4).rewipe hio hw3, ia.mono ((t.ff.trans q3).trans q4) _, el'⟩
  · have ed : ds.drop i = [] := List.drop_eq_nil_of_le (by omega)
    rw [ed] at el
    simp only [loopL, Option.some.injEq, Prod.mk.injEq, Except.ok.injEq] at el
    obtain ⟨rfl, rfl⟩ := el
    refine .inl ⟨w2 (by omega), ?_⟩
    have hFD := noD S
    have SB : T.Sat B F0 F Γ (wipe σ vs) H := S.weakB (.up hBD)
    refine r2 F H q (Sat.unwipe S1 SB q) _ ⟨Dd, .lst accV, rfl, hFD, hBD, hD1, .lst ia, fun j d hj hs => ?_⟩
    rcases unwipe_get hj with ⟨_, k2⟩ | ⟨k1, k2⟩
    · unfold keepD at k2; split at k2 <;> cases k2
    · obtain ⟨a, ho, g1, _, g3, _⟩ := S.ow j d k2
      rw [wipe_ne k1] at g1
      rw [g1] at hs; injection hs with hs; injection hs with hs; injection hs with hs; subst hs
      rw [upd_same] at g3; cases g3
theorem pg_ex {X : Cx} {tg : Expr} {α : Type} {t : α → TG} (h : ∀ a, PG X tg (t a)) : PG X tg (fun v σ H Q => ∃ a, t a v σ H Q) := ⟨fun pins s σ H v u Q I r ⟨a, q⟩ => (h a).run pins s σ H v u Q I r q⟩
theorem pts_ex {X : Cx} {e : List Expr} {α : Type} {t : α → TT} (h : ∀ a, PTs X e (t a)) : PTs X e (fun σ H Q => ∃ a, t a σ H Q) := ⟨fun pins s σ H Q I ⟨a, q⟩ => (h a).run pins s σ H Q I q⟩
theorem pe_ex {X : Cx} {e : Expr} {α : Type} {t : α → TE} (h : ∀ a, PE X e (t a)) : PE X e (fun σ H Q => ∃ a, t a σ H Q) := ⟨fun pins s σ H Q I ⟨a, q⟩ => (h a).run pins s σ H Q I q⟩
/-- the readings of a block do not depend on where it stands -/
abbrev tb (T : Tx) : Tx := { T with W := fun _ _ _ _ => False }
theorem tGw_blk {T : Tx} {s : Shared} {H0 : Hp} {cenv : Env} {fp : List Addr} {B F0 : Hp} {vs : List Nat} {scope : Scope} {g : D → M Unit} {v : V} {σ : L2.St} {H : Hp} {Q : L2.St → Hp → Prop} (h : tGw (tb T) B F0 vs g v σ H Q) : tGw (T.blk s H0 scope cenv fp) B F0 vs g v σ H Q := h
theorem re_lc {k : Nat} (own : List (Str × Nat)) (c : Cok T k) (hi : RI T tg iter ci) (hg : ∀ (s : Shared) (H : Hp) (C : Addr) (cl : List (Str × Addr)) (fp : List Addr), RGw (T.blk s H scope (compEnvC scope cl C T.X.env) fp) (own.map (·.2)) tg g)
    (ht : ∀ (s : Shared) (H : Hp) (C : Addr) (cl : List (Str × Addr)) (fp : List Addr), RTs (T.blk s H scope (compEnvC scope cl C T.X.env) fp) ifs ct) (he : ∀ (s : Shared) (H : Hp) (C : Addr) (cl : List (Str × Addr)) (fp : List Addr), RE (T.blk s H scope (compEnvC scope cl C T.X.env) fp) elt ce)
    (ok : blkC T.X.N T.X.env.scope scope own = true := by decide +kernel) (hio : ∀ v ∈ own.map (·.2), NoIo T v := by intro v hv; first | exact Or.inl rfl | (refine Or.inr ?_; simp only [List.map_cons, List.map_nil, List.mem_cons, List.not_mem_nil, or_false] at hv; omega))
    (hs : ∀ x, foldedSetIterable iter T.X.env x = pure x := by intro _; rfl) : RE T (.ListComp elt [⟨tg, iter, ifs, 0⟩] scope pos) (sLc (own.map (·.2)) ci g ct ce) := fun B F0 =>
  (pe_lc c.calm c.nd (hi B F0) (blkOk_by ok) (fun s H C cl fp => pg_ex fun B => hg s H C cl fp B F0) (fun s H C cl fp => pts_ex fun B => ht s H C cl fp B F0) (fun s H C cl fp => pe_ex fun B => rd_of (he s H C cl fp) B F0) hs).weak fun σ H Q h =>
    lc_weak (tb T) rfl rfl rfl hio h
/-- name = [..] -/
theorem rs_setLc {k : Nat} (i : Nat) (own : List (Str × Nat)) {y : Str} (c : Cok T k) (hi : RI T tg iter ci) (hg : ∀ (s : Shared) (H : Hp) (C : Addr) (cl : List (Str × Addr)) (fp : List Addr), RGw (T.blk s H scope (compEnvC scope cl C T.X.env) fp) (own.map (·.2)) tg g)
    (ht : ∀ (s : Shared) (H : Hp) (C : Addr) (cl : List (Str × Addr)) (fp : List Addr), RTs (T.blk s H scope (compEnvC scope cl C T.X.env) fp) ifs ct) (he : ∀ (s : Shared) (H : Hp) (C : Addr) (cl : List (Str × Addr)) (fp : List Addr), RE (T.blk s H scope (compEnvC scope cl C T.X.env) fp) elt ce)
    (hy : T.X.N[i]? = some y := by rfl) (hyl : T.X.env.scope.names.lookup y = some .local := by rfl) (hsw : swapsWith (.ListComp elt [⟨tg, iter, ifs, 0⟩] scope pos) (some (.Name y py)) spos.line T.X.env = pure true := by rfl)
    (ok : blkC T.X.N T.X.env.scope scope own = true := by decide +kernel) (hio : ∀ v ∈ own.map (·.2), NoIo T v := by intro v hv; first | exact Or.inl rfl | (refine Or.inr ?_; simp only [List.map_cons, List.map_nil, List.mem_cons, List.not_mem_nil, or_false] at hv; omega))
    (hio' : NoIo T i := by first | exact Or.inl rfl | exact Or.inr (by decide)) (hs : ∀ x, foldedSetIterable iter T.X.env x = pure x := by intro _; rfl) : RS T (.Assign [.Name y py] (.ListComp elt [⟨tg, iter, ifs, 0⟩] scope pos) spos) (sSet i (sLc (own.map (·.2)) ci g ct ce)) := fun B F0 =>
  (ps_setLc c.calm c.nd hy hyl hsw (hi B F0) (blkOk_by ok) (fun s H C cl fp => pg_ex fun B => hg s H C cl fp B F0) (fun s H C cl fp => pts_ex fun B => ht s H C cl fp B F0) (fun s H C cl fp => pe_ex fun B => rd_of (he s H C cl fp) B F0) hs).weak fun D σ H ⟨F, Γ, r⟩ =>
    lc_weak (tb T) rfl rfl rfl hio ⟨F, Γ, r.bnd.run.mono fun r0 F1 Γ1 H1 q1 S1 r1 v hv => by
      obtain ⟨F', Γ', r2⟩ := r1.bnd.stR hio' hv
      exact r2.ret.2⟩
end
end DL

/-! DL10a: enumerate(v) begins. -/
namespace DL
open PySem L2 PyProof.Rows PySem.W

/-! ### enumerate(v) begins -/
set_option maxHeartbeats 2000000 in
theorem meets_enum1 {v : Value} {o : Obj} {H : Heap → Prop} (B : Begins v o H) :
    Meets (Builtin.«enumerate.__new__» ⟨[.type "enumerate", v], []⟩) (fun _ R s => H s.heap ∧
      R (.ok (.ret (.ref (s.heap.push o).objs.size))) { s with heap := (s.heap.push o).push { cls := .type "enumerate", data := .fields #[.none, .bool false, .ref s.heap.objs.size, rawInt 0, .none, .none] } }) :=
  .of_wp fun prog w A R s h => by
    obtain ⟨hp, g, d, tk, os⟩ := s; obtain ⟨h1, h⟩ := h
    have hsub := sub_enumerate
    have q1 : ∀ {A' : Around} {E : Value → Shared → Prop} {Q : Value → Shared → Prop}, Q (.ref hp.objs.size) ⟨hp.push o, g, d, tk, os⟩ → wpAny (model prog w) A' (pyIter v) Q E ⟨hp, g, d, tk, os⟩ :=
      fun q => B.iter prog w _ _ ⟨hp, g, d, tk, os⟩ _ h1 q
    wp_walk using q1
    refine wpAny_stack_any fun st => wpAny_pure ?_
    split
    · rename_i c _ _ _ _ _
      cases (c == Value.type "enumerate")
      · wp_walk using q1
        exact ⟨_, rfl, h⟩
      · wp_walk using q1
        exact ⟨_, rfl, h⟩
    · wp_walk using q1
      exact ⟨_, rfl, h⟩
theorem enum_begins1 {prog : Program} {w : World} {A : Around} {E : Value → Shared → Prop} {s : Shared} {v : Value} {o : Obj} {H : Heap → Prop} {Q : Value → Shared → Prop} (B : Begins v o H) (h1 : H s.heap)
    (h : ∀ h', IsEnum h' (s.heap.objs.size + 1) s.heap.objs.size 0 .none → h'.get? s.heap.objs.size = some o → h'.objs.size = s.heap.objs.size + 2 →
      (∀ b o, s.heap.get? b = some o → h'.get? b = some o) → Q (.ref (s.heap.objs.size + 1)) { s with heap := h' }) :
    wpAny (model prog w) A (call (.type "enumerate") [v]) Q E s := by
  refine callType_new F.called_enumerate (by decide) (F.typeCall_enumerate_1 _) (F.newCall_enumerate_1 _) (fun obj => F.args_object_init_2 obj _) F.entry_enumerate_new (meets_enum1 B) ⟨h1, ?_⟩
  have hz : (s.heap.push o).objs.size = s.heap.objs.size + 1 := Heap.size_push ..
  show _ ∧ _
  rw [hz]
  have he : IsEnum ((s.heap.push o).push { cls := .type "enumerate", data := .fields #[.none, .bool false, .ref s.heap.objs.size, rawInt 0, .none, .none] }) (s.heap.objs.size + 1) s.heap.objs.size 0 .none := by
    have := Heap.get?_push_size (s.heap.push o) (o := { cls := .type "enumerate", data := .fields #[.none, .bool false, .ref s.heap.objs.size, rawInt 0, .none, .none] }) rfl
    rw [hz] at this; exact this
  refine ⟨⟨_, he, rfl⟩, h _ he (Heap.get?_push_of_some _ (Heap.get?_push_size _ B.free)) (by rw [Heap.size_push, hz]) fun b o x => Heap.get?_push_of_some _ (Heap.get?_push_of_some _ x)⟩

end DL

/-! DL10: enumerate, zip over lists, tuples and texts. -/
namespace DL
open PySem L2 PyProof.Rows PySem.W

/-! ### what is drawn from -/
def Src (P : Program) (w : World) (K : PySem.W.Frag) (R : Hp → Prop) (u : Value) (vs : List V) : Prop :=
  ∃ (o : Obj) (C : Heap → Prop) (fpX : List Addr) (O : Addr → Nat → Heap → Prop), Begins u o C ∧
    (∀ (X : Cx) (pins : List (Addr × Obj)) (σ : L2.St) (H : Hp) (s : Shared), X.prog = P → X.w = w → X.K = K → Inv X pins σ H s → R H → C s.heap) ∧
    (∀ h, C h → ∀ b ∈ fpX, b < h.objs.size) ∧
    (∀ A : Around, A.handled = none → ∀ it, it ∉ fpX → Draws P w A it (it :: fpX) vs.length (fun i x => ∃ y, vs[i]? = some y ∧ RelV y x) (fun i h => O it i h ∧ C h)) ∧
    (∀ it h, h.get? it = some o → O it 0 h) ∧ (∀ it i h h', O it i h → (∀ o, h.get? it = some o → h'.get? it = some o) → O it i h') ∧
    ∀ it i h, O it i h → ∃ ob, h.get? it = some ob ∧ ∀ v, ob.data ≠ .cell v
theorem vals_getV : ∀ {xs : List V} {us : List Value} {i : Nat} {u : Value}, Vals xs us → us[i]? = some u → ∃ y, xs[i]? = some y ∧ RelV y u
  | _, _, 0, u, .cons r t, e => by simp at e; subst e; exact ⟨_, rfl, r⟩
  | _, _, i + 1, u, .cons r t, e => by
    obtain ⟨y, h1, h2⟩ := vals_getV (i := i) t (by simpa using e)
    exact ⟨y, by simpa using h1, h2⟩
section
variable {P : Program} {w : World} {K : PySem.W.Frag} {a : Addr} {vs : List V}
theorem src_lst : Src P w K (fun H => SqL K H a vs) (.ref a) vs := by
  refine ⟨{ cls := .type "list_iterator", data := .fields #[.ref a, .int 0 0] }, fun h => ∃ its : List Value, Vals vs its ∧ h.IsList a its.toArray, [a], fun it i h => h.IsListIter it a i, ⟨fun prog w A E s Q ⟨its, _, hl⟩ h => (begins_list a its.toArray).iter prog w A E s Q hl h, fun h h' ⟨its, r, hl⟩ k => ⟨its, r, (begins_list a its.toArray).keeps h h' hl k⟩, rfl⟩,
    fun X pins σ H s hp hw hk I hR => ?_, fun h ⟨its, _, o, e, _⟩ b hb => ?_, fun A hh it hit => ?_, fun it h e => ⟨_, e, rfl, rfl⟩, fun it i h h' st k => st.at fun o e => k o e, fun it i h st => ?_⟩
  · subst hk
    obtain ⟨its, r, p, _⟩ := I.list hR
    exact ⟨its, r, p.isList⟩
  · rw [List.mem_singleton.mp hb]; exact Heap.lt_size e
  · have hne : a ≠ it := fun z => hit (by simp [z])
    refine ⟨fun i h st => ?_, fun i h h' st k => ⟨st.1.at fun o e => k it (by simp) o e, let ⟨its, r, hl⟩ := st.2; ⟨its, r, hl.at fun o e => k a (by simp) o e⟩⟩, fun i s Q E hi st hQ => ?_, fun s Q E st hE => ?_⟩
    · obtain ⟨o, e, _⟩ := st.1; exact ⟨o, e⟩
    · obtain ⟨st, its, r, hl⟩ := st
      refine (Draws.list hh it a hne its.toArray).item i s Q E (by rw [List.size_toArray, ← r.length]; exact hi) ⟨st, hl⟩ fun x h' tk hx st' sb => hQ x h' tk ?_ ⟨st'.1, its, r, st'.2⟩ sb
      exact vals_getV r (by simpa using hx)
    · obtain ⟨st, its, r, hl⟩ := st
      refine (Draws.list hh it a hne its.toArray).done s Q E ?_ hE
      rw [List.size_toArray, ← r.length]
      exact ⟨st, hl⟩
  · obtain ⟨o, e, _, d⟩ := st
    exact ⟨o, e, fun v z => by rw [d] at z; cases z⟩
theorem src_tup : Src P w K (fun H => SqT K H a vs) (.ref a) vs := by
  refine ⟨{ cls := .type "tuple_iterator", data := .fields #[.ref a, .int 0 0] }, fun h => ∃ its : List Value, Vals vs its ∧ h.IsTuple a its.toArray, [a], fun it i h => h.IsTupleIter it a i, ⟨fun prog w A E s Q ⟨its, _, hl⟩ h => (begins_tuple a its.toArray).iter prog w A E s Q hl h, fun h h' ⟨its, r, hl⟩ k => ⟨its, r, (begins_tuple a its.toArray).keeps h h' hl k⟩, rfl⟩,
    fun X pins σ H s hp hw hk I hR => ?_, fun h ⟨its, _, o, e, _⟩ b hb => ?_, fun A hh it hit => ?_, fun it h e => ⟨_, e, rfl, rfl⟩, fun it i h h' st k => st.at fun o e => k o e, fun it i h st => ?_⟩
  · subst hk
    obtain ⟨its, r, p, _⟩ := I.tuple hR
    exact ⟨its, r, p⟩
  · rw [List.mem_singleton.mp hb]; exact Heap.lt_size e
  · have hne : a ≠ it := fun z => hit (by simp [z])
    refine ⟨fun i h st => ?_, fun i h h' st k => ⟨st.1.at fun o e => k it (by simp) o e, let ⟨its, r, hl⟩ := st.2; ⟨its, r, hl.at fun o e => k a (by simp) o e⟩⟩, fun i s Q E hi st hQ => ?_, fun s Q E st hE => ?_⟩
    · obtain ⟨o, e, _⟩ := st.1; exact ⟨o, e⟩
    · obtain ⟨st, its, r, hl⟩ := st
      refine (Draws.tuple hh it a hne its.toArray).item i s Q E (by rw [List.size_toArray, ← r.length]; exact hi) ⟨st, hl⟩ fun x h' tk hx st' sb => hQ x h' tk ?_ ⟨st'.1, its, r, st'.2⟩ sb
      exact vals_getV r (by simpa using hx)
    · obtain ⟨st, its, r, hl⟩ := st
      refine (Draws.tuple hh it a hne its.toArray).done s Q E ?_ hE
      rw [List.size_toArray, ← r.length]
      exact ⟨st, hl⟩
  · obtain ⟨o, e, _, d⟩ := st
    exact ⟨o, e, fun v z => by rw [d] at z; cases z⟩
theorem src_str {x : Str} {t : Tok} : Src P w K (fun _ => True) (.str x t) (x.cps.toList.map fun c => V.str ⟨#[c]⟩) := by
  refine ⟨{ cls := .type (strIterType x), data := .fields #[.str x t, .int 0 0] }, fun _ => True, [], fun it i h => h.IsStrIter it (strIterType x) x t i, begins_text x t, fun _ _ _ _ _ _ _ _ _ _ => trivial, fun _ _ b hb => absurd hb (by simp), fun A hh it _ => ?_, fun it h e => ⟨_, e, rfl, rfl⟩, fun it i h h' st k => ?_, fun it i h st => ?_⟩
  · have W := Draws.text (prog := P) (w := w) hh it x t
    have hl : (x.cps.toList.map fun c => V.str ⟨#[c]⟩).length = x.cps.size := by simp
    rw [hl]
    refine ⟨fun i h st => W.live i h st.1, fun i h h' st k => ⟨W.frame i h h' st.1 fun b hb o e => k b hb o e, trivial⟩, fun i s Q E hi st hQ => ?_, fun s Q E st hE => W.done s Q E st.1 hE⟩
    refine W.item i s Q E hi st.1 fun y h' tk hy st' sb => hQ y h' tk ?_ ⟨st', trivial⟩ sb
    obtain ⟨c, u, hc, rfl⟩ := hy
    exact ⟨.str ⟨#[c]⟩, by simp [hc], u, rfl⟩
  · obtain ⟨o, e, r⟩ := st
    exact ⟨o, k o e, r⟩
  · obtain ⟨o, e, _, d⟩ := st
    exact ⟨o, e, fun v z => by rw [d] at z; cases z⟩
end
theorem src_of {T : Tx} {F : Hp} {v : V} {d : D} {ds : List D} {u : Value} (i : T.Is F v d) (e : seqI d = some ds) (r : RelV v u) :
    ∃ R vs, Src T.X.prog T.X.w T.X.K R u vs ∧ IsAll T.X.K T.cm F vs ds ∧ ∀ F' H', Same F F' → Same F' H' → R H' := by
  have i : DL.Is T.X.K T.cm F v d := i
  cases d <;> first | (cases e; done) | (cases e)
  · rw [IsT.str (H := F) (.inl i)] at r
    obtain ⟨t, rfl⟩ := r
    exact ⟨_, _, src_str, isAll_signs F _, fun _ _ _ _ => trivial⟩
  · cases i with
    | klst h hs => cases r; exact ⟨_, _, src_lst, hs, fun F' H' q fh => sql_same fh (sql_same q h)⟩
    | obj h ho => cases ho with
      | lst hs => cases r; exact ⟨_, _, src_lst, hs, fun F' H' q fh => .inl (.of (fh _ _ (q _ _ (h.flat rfl))))⟩
  · cases i with
    | ktup h hs => cases r; exact ⟨_, _, src_tup, hs, fun F' H' q fh => .of (fh _ _ (q _ _ h))⟩
    | obj h ho => cases ho

/-! ### iterators of new tuples -/
def Jp (n : Nat) (R : Hp → Prop) (PV : Nat → List V → Prop) : It :=
  ⟨fun i H => i < n ∧ R H, fun i H v H' => ∃ p ys, v = .ref p ∧ H p = none ∧ H' = upd H p (.tup ys) ∧ PV i ys, fun i H => i = n ∧ R H⟩
theorem turnW {P : Program} {w : World} {K : PySem.W.Frag} {elts : List Expr} {kk : Nat} {tpos : Pos} {n : Nat} {R : Hp → Prop} {PV : Nat → List V → Prop} {I0 : Addr} {fpO : List Addr} {SO : Nat → Heap → Prop} {SX : Heap → Prop} {Pt : Nat → Array Value → Prop}
    (hmem : I0 ∈ fpO) (hobj : ∀ i h, SO i h → ∀ b ∈ fpO, ∃ o, h.get? b = some o ∧ ∀ v, o.data ≠ .cell v) (hkeep : ∀ i h h', SO i h → (∀ b ∈ fpO, ∀ o, h.get? b = some o → h'.get? b = some o) → SO i h')
    (hR : ∀ (X : Cx) (pins : List (Addr × Obj)) (σ : L2.St) (H : Hp) (s : Shared), X.prog = P → X.w = w → X.K = K → Inv X pins σ H s → R H → SX s.heap)
    (hW : ∀ A : Around, A.handled = none → ∃ fp wr Mid, (∀ b ∈ wr, b ∈ fpO) ∧ WalksT P w A I0 fp wr n Pt (fun i h => SO i h ∧ SX h) Mid)
    (hself : ∀ (A : Around) (i : Nat) (s : Shared) (Q : Value → Shared → Prop) (E : Value → Shared → Prop), SO i s.heap → Q (.ref I0) s → wpAny (model P w) A (pyIter (.ref I0)) Q E s)
    (hP : ∀ i vals, Pt i vals → ∃ ys, PV i ys ∧ Vals ys vals.toList ∧ ys.length ≤ 3) : Turn P w K (.Tuple elts kk tpos) (Jp n R PV) fpO I0 SO where
  mem := hmem
  obj := hobj
  keep := hkeep
  item := by
    intro X hp hw hK hc i pins s σ H E I hf st hg
    subst hp hw hK
    obtain ⟨hi, hr⟩ := hg
    obtain ⟨fp, wr, Mid, hwr, W⟩ := hW X.A (I.ok.hd hc)
    refine W.item i s _ _ hi ⟨st, hR X pins σ H s rfl rfl rfl I hr⟩ fun p vals h' tk hPt hsz hT hm hk => ⟨.ref p, rfl, ?_⟩
    refine W.go elts kk tpos i p { s with heap := h', toks := tk } _ _ hm fun h2 st2 hk2 => ?_
    obtain ⟨ys, hy, rv, hl⟩ := hP i vals hPt
    have hT2 : h2.IsTuple p vals := hT.at fun o e => hk2 p o (W.apart i p h' hm) e
    have new : ObjOk X.prog X.w (upd H p (.tup ys)) h2 p (.tup ys) := ⟨by rw [sizeLine_eq]; omega, vals.toList, rv, by rw [Array.toArray_toList]; exact hT2⟩
    have I1 : Inv X pins σ (upd H p (.tup ys)) { s with heap := h2, toks := tk } := I.turnedNew (ch := fpO) (fun b o hb e => hk2 b o (fun z => hb (hwr b z)) (hk b o (fun z => hb (hwr b z)) e)) hf hsz new
    refine ⟨.ref p, _, I1, rfl, ⟨p, ys, rfl, I.hok.fresh hsz, rfl, hy⟩, st2.1, fun b hb => ?_⟩
    obtain ⟨o, e, _⟩ := hobj i s.heap st b hb
    rw [upd_ne (Nat.ne_of_lt (Nat.lt_of_lt_of_le (Heap.lt_size e) hsz))]
    exact (hf b hb).1
  done := by
    intro X hp hw hK hc i pins s σ H E I hf st hg
    subst hp hw hK
    obtain ⟨hi, hr⟩ := hg
    subst hi
    obtain ⟨fp, wr, Mid, hwr, W⟩ := hW X.A (I.ok.hd hc)
    exact W.done s _ _ ⟨st, hR X pins σ H s rfl rfl rfl I hr⟩ fun h' tk hk => ⟨rfl, I.turnedL (ch := fpO) (fun b o hb e => hk b o (fun z => hb (hwr b z)) e) hf⟩
  self := hself

/-! ### the rules -/
def enumD (ds : List D) : List D := ds.zipIdx.map fun p => .tup [.int (p.2 : Nat), p.1]
def enumA : List D → Option (List D)
  | [d] => (seqI d).map enumD
  | _ => none
def zipD2 (xs ys : List D) : List D := List.zipWith (fun x y => .tup [x, y]) xs ys
def zipD3 (xs ys zs : List D) : List D := List.zipWith (fun x p => .tup [x, p.1, p.2]) xs (ys.zip zs)
def zipA2 : List D → Option (List D)
  | [d, e] => match seqI d, seqI e with
    | some xs, some ys => some (zipD2 xs ys)
    | _, _ => none
  | _ => none
def zipA3 : List D → Option (List D)
  | [d, e, f] => match seqI d, seqI e, seqI f with
    | some xs, some ys, some zs => some (zipD3 xs ys zs)
    | _, _, _ => none
  | _ => none
theorem walkJ {T : Tx} {F : Hp} {n : Nat} {R : Hp → Prop} {PV : Nat → List V → Prop} {ds : List D} (hn : n = ds.length) (hR : ∀ F' H', Same F F' → Same F' H' → R H') (hP : ∀ (i : Nat) (d : D), ds[i]? = some d → ∃ es, d = .tup es ∧ ∀ ys, PV i ys → IsAll T.X.K T.cm F ys es) : Walk T (Jp n R PV) F ds := fun i F' H' q fh => by
  refine ⟨fun d hd => ⟨⟨by rw [hn]; exact lt_of_get hd, hR F' H' q fh⟩, fun x H2 ⟨p, ys, e, hp, eH, hy⟩ => ?_⟩, fun hi => ⟨by omega, hR F' H' q fh⟩⟩
  subst e; subst eH
  obtain ⟨es, rfl, k⟩ := hP i d hd
  exact ⟨upd F' p (.tup ys), .new fh hp, .ktup upd_same (((k ys hy).mono q _).mono (.up (fh.free hp)) _)⟩
theorem isAll_at {K : PySem.W.Frag} {cm : Nat → Addr} {F : Hp} {vs : List V} {ds : List D} {i : Nat} {d : D} {y : V} (h : IsAll K cm F vs ds) (e : ds[i]? = some d) (e2 : vs[i]? = some y) : DL.Is K cm F y d := by
  obtain ⟨v, h1, h2⟩ := h.get e
  rw [e2] at h1; cases h1
  exact h2
section
variable {T : Tx} {e e2 e3 : Expr} {cs : M (List D)} {p pos tpos : Pos} {elts : List Expr} {kk : Nat}
theorem fresh_cells {X : Cx} {pins : List (Addr × Obj)} {σ : L2.St} {H : Hp} {s : Shared} {h' : Heap} {n : Nat} (I : Inv X pins σ H s) (fp : List Addr) (hf : ∀ b ∈ fp, s.heap.objs.size ≤ b) : ∀ b ∈ fp, FpOk X pins H b := fun b hb => I.fpOk (hf b hb) (I.hok.fresh (hf b hb))
theorem ri_enum (ha : RA T [e] cs) (hm : T.X.mg "enumerate" = none) (hg : Gl T.X "enumerate" := by rfl) (hs : starEach [e] T.X.env = [(false, eval e T.X.env)] := by rfl) :
    RI T (.Tuple elts kk tpos) (.Call (.Name "enumerate" p) [e] [] pos) (sRng enumA cs) := fun B F0 => by
  refine ⟨fun pins s σ H R I ⟨F, Γ, r⟩ => ?_⟩
  refine Call_ (ld_blt I hg hm boot_enumerate (callWith_type1 (thn ((ha B F0).run pos pins s σ H (fun vs H1 => ∃ F1 d ds, Same F1 H1 ∧ seqI d = some ds ∧ (∃ v, vs = [v] ∧ T.Is F1 v d) ∧ ∀ J, Walk T J F1 (enumD ds) → R J H1) I ⟨F, Γ, r.bnd.mono fun ds F1 Γ1 H1 q1 S1 r1 vs hvs => ?_⟩) fun us s1 h1 => ?_) hs rfl))
  · obtain ⟨_, ls, e0, k⟩ := ofO_run r1
    match ds, hvs, e0 with
    | [d], .cons i .nil, e0 =>
      simp only [enumA, Option.map_eq_some_iff] at e0
      obtain ⟨es, e1, rfl⟩ := e0
      exact ⟨F1, d, es, S1.fh, e1, ⟨_, rfl, i⟩, k⟩
  · obtain ⟨vs, H1, I1, rv, F1, d, ds, fh, ed, ⟨v, rfl, iv⟩, k⟩ := h1
    obtain ⟨u, rfl, ru⟩ := vals1 rv
    obtain ⟨Rh, ws, ⟨o, C, fpX, O, bg, tr, fr, dr, s0, ofr, ob⟩, iw, hR⟩ := src_of iv ed ru
    have hC := tr T.X pins σ H1 s1 rfl rfl rfl I1 (hR F1 H1 (.refl _) fh)
    refine enum_begins1 bg hC fun h' he hit hsz hk => wpAny_pyIter_enum he ?_
    have I2 : Inv T.X pins σ H1 { s1 with heap := h' } := I1.kept (t' := s1.toks) hk
    have hei : s1.heap.objs.size + 1 ≠ s1.heap.objs.size := Nat.succ_ne_self _
    have hef : s1.heap.objs.size + 1 ∉ fpX := fun z => absurd (fr _ hC _ z) (Nat.not_lt.mpr (Nat.le_succ _))
    have hif : s1.heap.objs.size ∉ fpX := fun z => absurd (fr _ hC _ z) (Nat.lt_irrefl _)
    have hef' : s1.heap.objs.size + 1 ∉ s1.heap.objs.size :: fpX := fun z => (List.mem_cons.mp z).elim hei hef
    refine ⟨s1.heap.objs.size + 1, [s1.heap.objs.size + 1, s1.heap.objs.size], fun i h => (∃ old, IsEnum h (s1.heap.objs.size + 1) s1.heap.objs.size (0 + (i : Int)) old) ∧ O s1.heap.objs.size i h, Jp ds.length Rh (fun i ys => ∃ y, ws[i]? = some y ∧ ys = [.int (i : Nat), y]), H1, rfl, I2,
      turnW (SX := C) (Pt := fun i vals => ∃ t x, (∃ y, ws[i]? = some y ∧ RelV y x) ∧ vals = #[.int (0 + (i : Int)) t, x]) (by simp) (fun i h st b hb => ?_) (fun i h h' st kk => ?_) tr (fun A hh => ?_) (fun A i s Q E st q => ?_) (fun i vals hp => ?_), ⟨⟨.none, by simpa using he⟩, s0 _ _ hit⟩, fresh_cells (h' := h') (n := 0) I1 _ (fun b hb => ?_), k _ (walkJ (by simp [enumD]) hR fun i d hd => ?_)⟩
    · rcases List.mem_cons.mp hb with rfl | hb
      · obtain ⟨old, q⟩ := st.1; exact ⟨_, q, fun v z => nomatch z⟩
      · rw [List.mem_singleton.mp hb]; exact ob _ _ _ st.2
    · obtain ⟨⟨old, q⟩, st⟩ := st
      exact ⟨⟨old, kk _ (by simp) _ q⟩, ofr _ _ _ _ st fun o e => kk _ (by simp) o e⟩
    · have W := WalksT.enumFrom (A := A) 0 (dr A.in1 hh s1.heap.objs.size hif) (s1.heap.objs.size + 1) hei hef' (by simp)
      rw [iw.length] at W
      have ee : (fun (i : Nat) (h : Heap) => (∃ old, IsEnum h (s1.heap.objs.size + 1) s1.heap.objs.size (0 + (i : Int)) old) ∧ O s1.heap.objs.size i h ∧ C h) = fun (i : Nat) (h : Heap) => ((∃ old, IsEnum h (s1.heap.objs.size + 1) s1.heap.objs.size (0 + (i : Int)) old) ∧ O s1.heap.objs.size i h) ∧ C h := by
        funext i h
        exact propext and_assoc.symm
      have W2 := W
      rw [ee] at W2
      exact ⟨_, _, _, fun b hb => hb, W2⟩
    · obtain ⟨⟨old, q1⟩, _⟩ := st
      exact wpAny_pyIter_enum q1 q
    · obtain ⟨t, x, ⟨y, h1, h2⟩, rfl⟩ := hp
      exact ⟨[.int (i : Nat), y], ⟨y, h1, rfl⟩, .cons ⟨t, by simp⟩ (.cons h2 .nil), by simp⟩
    · rcases List.mem_cons.mp hb with rfl | hb
      · exact Nat.le_succ _
      · rw [List.mem_singleton.mp hb]; exact Nat.le_refl _
    · simp only [enumD, List.getElem?_map, List.getElem?_zipIdx, Option.map_map, Option.map_eq_some_iff] at hd
      obtain ⟨d0, h1, rfl⟩ := hd
      refine ⟨_, rfl, fun ys ⟨y, h2, e⟩ => ?_⟩
      subst e
      simp only [Nat.zero_add]
      exact .cons (.int _) (.cons (isAll_at iw h1 h2) .nil)
theorem ri_zip2 (ha : RA T [e, e2] cs) (hm : T.X.mg "zip" = none) (hg : Gl T.X "zip" := by rfl) (hs : starEach [e, e2] T.X.env = (false, eval e T.X.env) :: starEach [e2] T.X.env := by rfl) (hpl : (backTo pos (starEach [e2] T.X.env)).any (·.1) = false := by rfl) :
    RI T (.Tuple elts kk tpos) (.Call (.Name "zip" p) [e, e2] [] pos) (sRng zipA2 cs) := fun B F0 => by
  refine ⟨fun pins s σ H R I ⟨F, Γ, r⟩ => ?_⟩
  refine Call_ (ld_blt I hg hm boot_zip (callWith_type1 (thn ((ha B F0).run pos pins s σ H (fun vs H1 => ∃ F1 d d2 xs ys, Same F1 H1 ∧ seqI d = some xs ∧ seqI d2 = some ys ∧ (∃ v v2, vs = [v, v2] ∧ T.Is F1 v d ∧ T.Is F1 v2 d2) ∧ ∀ J, Walk T J F1 (zipD2 xs ys) → R J H1) I ⟨F, Γ, r.bnd.mono fun ds F1 Γ1 H1 q1 S1 r1 vs hvs => ?_⟩) fun us s1 h1 => ?_) hs hpl))
  · obtain ⟨_, ls, e0, k⟩ := ofO_run r1
    match ds, hvs, e0 with
    | [d, d2], .cons i (.cons i2 .nil), e0 =>
      simp only [zipA2] at e0
      split at e0
      · rename_i xs ys e1 e2
        cases e0
        exact ⟨F1, d, d2, xs, ys, S1.fh, e1, e2, ⟨_, _, rfl, i, i2⟩, k⟩
      · cases e0
  · obtain ⟨vs, H1, I1, rv, F1, d, d2, xs, ys, fh, ed, ed2, ⟨v, v2, rfl, iv, iv2⟩, k⟩ := h1
    obtain ⟨u, u2, rfl, ru, ru2⟩ := vals2 rv
    obtain ⟨Rh, ws, ⟨o, C, fpX, O, bg, tr, fr, dr, s0, ofr, ob⟩, iw, hR⟩ := src_of iv ed ru
    obtain ⟨Rh2, ws2, ⟨o2, C2, fpX2, O2, bg2, tr2, fr2, dr2, s02, ofr2, ob2⟩, iw2, hR2⟩ := src_of iv2 ed2 ru2
    have hC := tr T.X pins σ H1 s1 rfl rfl rfl I1 (hR F1 H1 (.refl _) fh)
    have hC2 := tr2 T.X pins σ H1 s1 rfl rfl rfl I1 (hR2 F1 H1 (.refl _) fh)
    refine zip_begins2 bg bg2 hC hC2 fun h' hz hTI hTO g1 g2 hsz hk => wpAny_pyIter_zip hz ?_
    have I2 : Inv T.X pins σ H1 { s1 with heap := h' } := I1.kept (t' := s1.toks) hk
    generalize hN : s1.heap.objs.size = N at *
    have lo : ∀ b ∈ fpX, b < N := fun b hb => by rw [← hN]; exact fr _ hC b hb
    have lo2 : ∀ b ∈ fpX2, b < N := fun b hb => by rw [← hN]; exact fr2 _ hC2 b hb
    have n1 : N ∉ fpX := fun z => absurd (lo _ z) (Nat.lt_irrefl _)
    have n2 : N + 1 ∉ fpX2 := fun z => absurd (lo2 _ z) (Nat.not_lt.mpr (Nat.le_succ _))
    refine ⟨N + 4, [N + 4, N + 2, N + 3, N, N + 1], fun i h => (IsZip h (N + 4) (N + 2) (N + 3) .none ∧ IsTupOf2 h (N + 2) (.ref N) (.ref (N + 1)) ∧ ∃ a1 a2, IsTupOf2 h (N + 3) a1 a2) ∧ O N i h ∧ O2 (N + 1) i h,
      Jp (min xs.length ys.length) (fun H => Rh H ∧ Rh2 H) (fun i zs => ∃ y y2, ws[i]? = some y ∧ ws2[i]? = some y2 ∧ zs = [y, y2]), H1, rfl, I2,
      turnW (SX := fun h => C h ∧ C2 h) (Pt := fun i vals => ∃ x1 x2, (∃ y, ws[i]? = some y ∧ RelV y x1) ∧ (∃ y, ws2[i]? = some y ∧ RelV y x2) ∧ vals = #[x1, x2]) (by simp) (fun i h st b hb => ?_) (fun i h h' st kk => ?_) (fun X pins σ H s a1 a2 a3 I r => ⟨tr X pins σ H s a1 a2 a3 I r.1, tr2 X pins σ H s a1 a2 a3 I r.2⟩) (fun A hh => ?_) (fun A i s Q E st q => ?_) (fun i vals hp => ?_),
      ⟨⟨hz, hTI, _, _, hTO⟩, s0 _ _ g1, s02 _ _ g2⟩, fresh_cells (h' := h') (n := 0) I1 _ (fun b hb => ?_), k _ (walkJ (by simp [zipD2]) (fun F' H' a b => ⟨hR F' H' a b, hR2 F' H' a b⟩) fun i d hd => ?_)⟩
    · obtain ⟨⟨st1, st2, a1, a2, st3⟩, st4, st5⟩ := st
      simp only [List.mem_cons, List.not_mem_nil, or_false] at hb
      rcases hb with rfl | rfl | rfl | rfl | rfl
      · exact ⟨_, st1, fun v z => nomatch z⟩
      · exact ⟨_, st2, fun v z => nomatch z⟩
      · exact ⟨_, st3, fun v z => nomatch z⟩
      · exact ob _ _ _ st4
      · exact ob2 _ _ _ st5
    · obtain ⟨⟨st1, st2, a1, a2, st3⟩, st4, st5⟩ := st
      exact ⟨⟨kk _ (by simp) _ st1, kk _ (by simp) _ st2, a1, a2, kk _ (by simp) _ st3⟩, ofr _ _ _ _ st4 fun o e => kk _ (by simp) o e, ofr2 _ _ _ _ st5 fun o e => kk _ (by simp) o e⟩
    · have W := WalksT.zipD2 (A := A) (zip_sep2 lo lo2) (dr A.in1 hh N n1) (dr2 A.in1 hh (N + 1) n2)
      rw [iw.length, iw2.length] at W
      have W2 := W
      have ee : (fun (i : Nat) (h : Heap) => IsZip h (N + 4) (N + 2) (N + 3) .none ∧ IsTupOf2 h (N + 2) (.ref N) (.ref (N + 1)) ∧ (∃ a1 a2, IsTupOf2 h (N + 3) a1 a2) ∧ (O N i h ∧ C h) ∧ O2 (N + 1) i h ∧ C2 h) =
            fun i h => ((IsZip h (N + 4) (N + 2) (N + 3) .none ∧ IsTupOf2 h (N + 2) (.ref N) (.ref (N + 1)) ∧ ∃ a1 a2, IsTupOf2 h (N + 3) a1 a2) ∧ O N i h ∧ O2 (N + 1) i h) ∧ C h ∧ C2 h := by
          funext i h
          exact propext ⟨fun ⟨b1, b2, b3, ⟨b4, b5⟩, b6, b7⟩ => ⟨⟨⟨b1, b2, b3⟩, b4, b6⟩, b5, b7⟩, fun ⟨⟨⟨b1, b2, b3⟩, b4, b6⟩, b5, b7⟩ => ⟨b1, b2, b3, ⟨b4, b5⟩, b6, b7⟩⟩
      rw [ee] at W2
      refine ⟨_, _, _, ?_, W2⟩
      · intro b hb
        simp only [List.mem_cons, List.not_mem_nil, or_false] at hb ⊢
        rcases hb with h | h | h | h <;> simp [h]
    · exact wpAny_pyIter_zip st.1.1 q
    · obtain ⟨x1, x2, ⟨y, h1, h2⟩, ⟨y2, h3, h4⟩, rfl⟩ := hp
      exact ⟨[y, y2], ⟨y, y2, h1, h3, rfl⟩, .cons h2 (.cons h4 .nil), by simp⟩
    · rw [hN]
      simp only [List.mem_cons, List.not_mem_nil, or_false] at hb
      rcases hb with rfl | rfl | rfl | rfl | rfl
      · exact Nat.le_add_right _ _
      · exact Nat.le_add_right _ _
      · exact Nat.le_add_right _ _
      · exact Nat.le_refl _
      · exact Nat.le_add_right _ _
    · simp only [zipD2, List.getElem?_zipWith] at hd
      rcases q1 : xs[i]? with _ | a <;> rcases q2 : ys[i]? with _ | b <;> simp only [q1, q2] at hd <;> cases hd
      refine ⟨_, rfl, fun zs ⟨y, y2, h1, h2, e⟩ => ?_⟩
      subst e
      exact .cons (isAll_at iw q1 h1) (.cons (isAll_at iw2 q2 h2) .nil)
theorem ri_zip3 (ha : RA T [e, e2, e3] cs) (hm : T.X.mg "zip" = none) (hg : Gl T.X "zip" := by rfl) (hs : starEach [e, e2, e3] T.X.env = (false, eval e T.X.env) :: starEach [e2, e3] T.X.env := by rfl) (hpl : (backTo pos (starEach [e2, e3] T.X.env)).any (·.1) = false := by rfl) :
    RI T (.Tuple elts kk tpos) (.Call (.Name "zip" p) [e, e2, e3] [] pos) (sRng zipA3 cs) := fun B F0 => by
  refine ⟨fun pins s σ H R I ⟨F, Γ, r⟩ => ?_⟩
  refine Call_ (ld_blt I hg hm boot_zip (callWith_type1 (thn ((ha B F0).run pos pins s σ H (fun vs H1 => ∃ F1 d d2 d3 xs ys zs, Same F1 H1 ∧ seqI d = some xs ∧ seqI d2 = some ys ∧ seqI d3 = some zs ∧ (∃ v v2 v3, vs = [v, v2, v3] ∧ T.Is F1 v d ∧ T.Is F1 v2 d2 ∧ T.Is F1 v3 d3) ∧ ∀ J, Walk T J F1 (zipD3 xs ys zs) → R J H1) I ⟨F, Γ, r.bnd.mono fun ds F1 Γ1 H1 q1 S1 r1 vs hvs => ?_⟩) fun us s1 h1 => ?_) hs hpl))
  · obtain ⟨_, ls, e0, k⟩ := ofO_run r1
    match ds, hvs, e0 with
    | [d, d2, d3], .cons i (.cons i2 (.cons i3 .nil)), e0 =>
      simp only [zipA3] at e0
      split at e0
      · rename_i xs ys zs e1 e2 e3
        cases e0
        exact ⟨F1, d, d2, d3, xs, ys, zs, S1.fh, e1, e2, e3, ⟨_, _, _, rfl, i, i2, i3⟩, k⟩
      · cases e0
  · obtain ⟨vs, H1, I1, rv, F1, d, d2, d3, xs, ys, zs, fh, ed, ed2, ed3, ⟨v, v2, v3, rfl, iv, iv2, iv3⟩, k⟩ := h1
    obtain ⟨u, u2, u3, rfl, ru, ru2, ru3⟩ : ∃ u u2 u3, us = [u, u2, u3] ∧ RelV v u ∧ RelV v2 u2 ∧ RelV v3 u3 := by
      cases rv with
      | cons p q => cases q with
        | cons p' q' => cases q' with
          | cons p'' q'' => cases q''; exact ⟨_, _, _, rfl, p, p', p''⟩
    obtain ⟨Rh, ws, ⟨o, C, fpX, O, bg, tr, fr, dr, s0, ofr, ob⟩, iw, hR⟩ := src_of iv ed ru
    obtain ⟨Rh2, ws2, ⟨o2, C2, fpX2, O2, bg2, tr2, fr2, dr2, s02, ofr2, ob2⟩, iw2, hR2⟩ := src_of iv2 ed2 ru2
    obtain ⟨Rh3, ws3, ⟨o3, C3, fpX3, O3, bg3, tr3, fr3, dr3, s03, ofr3, ob3⟩, iw3, hR3⟩ := src_of iv3 ed3 ru3
    have hC := tr T.X pins σ H1 s1 rfl rfl rfl I1 (hR F1 H1 (.refl _) fh)
    have hC2 := tr2 T.X pins σ H1 s1 rfl rfl rfl I1 (hR2 F1 H1 (.refl _) fh)
    have hC3 := tr3 T.X pins σ H1 s1 rfl rfl rfl I1 (hR3 F1 H1 (.refl _) fh)
    refine zip_begins3 bg bg2 bg3 hC hC2 hC3 fun h' hz hTI hTO g1 g2 g3 hsz hk => wpAny_pyIter_zip hz ?_
    have I2 : Inv T.X pins σ H1 { s1 with heap := h' } := I1.kept (t' := s1.toks) hk
    generalize hN : s1.heap.objs.size = N at *
    have lo : ∀ b ∈ fpX, b < N := fun b hb => by rw [← hN]; exact fr _ hC b hb
    have lo2 : ∀ b ∈ fpX2, b < N := fun b hb => by rw [← hN]; exact fr2 _ hC2 b hb
    have lo3 : ∀ b ∈ fpX3, b < N := fun b hb => by rw [← hN]; exact fr3 _ hC3 b hb
    have n1 : N ∉ fpX := fun z => absurd (lo _ z) (Nat.lt_irrefl _)
    have n2 : N + 1 ∉ fpX2 := fun z => absurd (lo2 _ z) (Nat.not_lt.mpr (Nat.le_succ _))
    have n3 : N + 2 ∉ fpX3 := fun z => absurd (lo3 _ z) (Nat.not_lt.mpr (Nat.le_add_right _ _))
    refine ⟨N + 5, [N + 5, N + 3, N + 4, N, N + 1, N + 2], fun i h => (IsZip h (N + 5) (N + 3) (N + 4) .none ∧ IsTupOf3 h (N + 3) (.ref N) (.ref (N + 1)) (.ref (N + 2)) ∧ ∃ a1 a2 a3, IsTupOf3 h (N + 4) a1 a2 a3) ∧ O N i h ∧ O2 (N + 1) i h ∧ O3 (N + 2) i h,
      Jp (min (min xs.length ys.length) zs.length) (fun H => Rh H ∧ Rh2 H ∧ Rh3 H) (fun i us => ∃ y y2 y3, ws[i]? = some y ∧ ws2[i]? = some y2 ∧ ws3[i]? = some y3 ∧ us = [y, y2, y3]), H1, rfl, I2,
      turnW (SX := fun h => C h ∧ C2 h ∧ C3 h) (Pt := fun i vals => ∃ x1 x2 x3, (∃ y, ws[i]? = some y ∧ RelV y x1) ∧ (∃ y, ws2[i]? = some y ∧ RelV y x2) ∧ (∃ y, ws3[i]? = some y ∧ RelV y x3) ∧ vals = #[x1, x2, x3]) (by simp) (fun i h st b hb => ?_) (fun i h h' st kk => ?_)
        (fun X pins σ H s a1 a2 a3 I r => ⟨tr X pins σ H s a1 a2 a3 I r.1, tr2 X pins σ H s a1 a2 a3 I r.2.1, tr3 X pins σ H s a1 a2 a3 I r.2.2⟩) (fun A hh => ?_) (fun A i s Q E st q => ?_) (fun i vals hp => ?_),
      ⟨⟨hz, hTI, _, _, _, hTO⟩, s0 _ _ g1, s02 _ _ g2, s03 _ _ g3⟩, fresh_cells (h' := h') (n := 0) I1 _ (fun b hb => ?_), k _ (walkJ (by simp [zipD3, Nat.min_assoc]) (fun F' H' a b => ⟨hR F' H' a b, hR2 F' H' a b, hR3 F' H' a b⟩) fun i d hd => ?_)⟩
    · obtain ⟨⟨st1, st2, a1, a2, a3, st3⟩, st4, st5, st6⟩ := st
      simp only [List.mem_cons, List.not_mem_nil, or_false] at hb
      rcases hb with rfl | rfl | rfl | rfl | rfl | rfl
      · exact ⟨_, st1, fun v z => nomatch z⟩
      · exact ⟨_, st2, fun v z => nomatch z⟩
      · exact ⟨_, st3, fun v z => nomatch z⟩
      · exact ob _ _ _ st4
      · exact ob2 _ _ _ st5
      · exact ob3 _ _ _ st6
    · obtain ⟨⟨st1, st2, a1, a2, a3, st3⟩, st4, st5, st6⟩ := st
      exact ⟨⟨kk _ (by simp) _ st1, kk _ (by simp) _ st2, a1, a2, a3, kk _ (by simp) _ st3⟩, ofr _ _ _ _ st4 fun o e => kk _ (by simp) o e, ofr2 _ _ _ _ st5 fun o e => kk _ (by simp) o e, ofr3 _ _ _ _ st6 fun o e => kk _ (by simp) o e⟩
    · have W := WalksT.zipD3 (A := A) (zip_sep3 lo lo2 lo3) (dr A.in1 hh N n1) (dr2 A.in1 hh (N + 1) n2) (dr3 A.in1 hh (N + 2) n3)
      rw [iw.length, iw2.length, iw3.length] at W
      have W2 := W
      have ee : (fun (i : Nat) (h : Heap) => IsZip h (N + 5) (N + 3) (N + 4) .none ∧ IsTupOf3 h (N + 3) (.ref N) (.ref (N + 1)) (.ref (N + 2)) ∧ (∃ a1 a2 a3, IsTupOf3 h (N + 4) a1 a2 a3) ∧ (O N i h ∧ C h) ∧ (O2 (N + 1) i h ∧ C2 h) ∧ O3 (N + 2) i h ∧ C3 h) =
            fun i h => ((IsZip h (N + 5) (N + 3) (N + 4) .none ∧ IsTupOf3 h (N + 3) (.ref N) (.ref (N + 1)) (.ref (N + 2)) ∧ ∃ a1 a2 a3, IsTupOf3 h (N + 4) a1 a2 a3) ∧ O N i h ∧ O2 (N + 1) i h ∧ O3 (N + 2) i h) ∧ C h ∧ C2 h ∧ C3 h := by
          funext i h
          exact propext ⟨fun ⟨b1, b2, b3, ⟨b4, b5⟩, ⟨b6, b7⟩, b8, b9⟩ => ⟨⟨⟨b1, b2, b3⟩, b4, b6, b8⟩, b5, b7, b9⟩, fun ⟨⟨⟨b1, b2, b3⟩, b4, b6, b8⟩, b5, b7, b9⟩ => ⟨b1, b2, b3, ⟨b4, b5⟩, ⟨b6, b7⟩, b8, b9⟩⟩
      rw [ee] at W2
      refine ⟨_, _, _, ?_, W2⟩
      · intro b hb
        simp only [List.mem_cons, List.not_mem_nil, or_false] at hb ⊢
        rcases hb with h | h | h | h | h <;> simp [h]
    · exact wpAny_pyIter_zip st.1.1 q
    · obtain ⟨x1, x2, x3, ⟨y, h1, h2⟩, ⟨y2, h3, h4⟩, ⟨y3, h5, h6⟩, rfl⟩ := hp
      exact ⟨[y, y2, y3], ⟨y, y2, y3, h1, h3, h5, rfl⟩, .cons h2 (.cons h4 (.cons h6 .nil)), by simp⟩
    · rw [hN]
      simp only [List.mem_cons, List.not_mem_nil, or_false] at hb
      rcases hb with rfl | rfl | rfl | rfl | rfl | rfl
      · exact Nat.le_add_right _ _
      · exact Nat.le_add_right _ _
      · exact Nat.le_add_right _ _
      · exact Nat.le_refl _
      · exact Nat.le_add_right _ _
      · exact Nat.le_add_right _ _
    · simp only [zipD3, List.getElem?_zipWith, List.getElem?_zip_eq_some, List.zip] at hd
      rcases q1 : xs[i]? with _ | a <;> rcases q2 : ys[i]? with _ | b <;> rcases q3 : zs[i]? with _ | c <;> simp only [q1, q2, q3, List.getElem?_zipWith] at hd <;> cases hd
      refine ⟨_, rfl, fun us ⟨y, y2, y3, h1, h2, h3, e⟩ => ?_⟩
      subst e
      exact .cons (isAll_at iw q1 h1) (.cons (isAll_at iw2 q2 h2) (.cons (isAll_at iw3 q3 h3) .nil))
end
end DL

/-! DL11: objects of own classes: fields, making, methods, properties, constants, len. -/
namespace DL
open PySem L2 PyProof.Rows

/-! ### fields as data -/
def lookD : List Str → List D → Str → Option D
  | f :: fs, v :: vs, g => if g = f then some v else lookD fs vs g
  | _, _, _ => none
def putN (f : Str) : List Str → List Str
  | [] => [f]
  | k :: r => if k = f then k :: r else k :: putN f r
def putV (f : Str) (d : D) : List Str → List D → List D
  | [], _ => [d]
  | k :: r, v :: vs => if k = f then d :: vs else v :: putV f d r vs
  | _ :: _, [] => [d]
section
variable {K : PySem.W.Frag} {cm : Nat → Addr} {F : Hp}
theorem look_ws : ∀ {ws : List (Str × V)} {fs : List Str} {vs : List D} {g : Str} {d : D}, ws.map (·.1) = fs → IsAll K cm F (ws.map (·.2)) vs → lookD fs vs g = some d → ∃ v, ws.lookup g = some v ∧ DL.Is K cm F v d
  | [], fs, vs, g, d, e, i, h => by cases e; cases h
  | (k, x) :: ws, fs, vs, g, d, e, i, h => by
    subst e
    cases i with
    | cons i is =>
      simp only [List.map_cons, lookD] at h
      by_cases hg : g = k
      · rw [if_pos hg] at h; cases h
        exact ⟨x, by simp [List.lookup, hg], i⟩
      · rw [if_neg hg] at h
        obtain ⟨v, h1, h2⟩ := look_ws rfl is h
        have : (g == k) = false := by simpa using hg
        exact ⟨v, by simp [List.lookup, this, h1], h2⟩
theorem look_none : ∀ {ws : List (Str × V)} {fs : List Str} {g : Str}, ws.map (·.1) = fs → fs.contains g = false → ws.lookup g = none
  | [], fs, g, e, h => rfl
  | (k, x) :: ws, fs, g, e, h => by
    subst e
    simp only [List.map_cons, List.contains_cons, Bool.or_eq_false_iff] at h
    simp only [List.lookup, h.1]
    exact look_none rfl h.2
theorem put_ws : ∀ {ws : List (Str × V)} {fs : List Str} {vs : List D} {f : Str} {v : V} {d : D}, ws.map (·.1) = fs → IsAll K cm F (ws.map (·.2)) vs → DL.Is K cm F v d → (putF f v ws).map (·.1) = putN f fs ∧ IsAll K cm F ((putF f v ws).map (·.2)) (putV f d fs vs)
  | [], fs, vs, f, v, d, e, i, h => by
    subst e; cases i
    exact ⟨rfl, .cons h .nil⟩
  | (k, x) :: ws, fs, vs, f, v, d, e, i, h => by
    subst e
    cases i with
    | cons i is =>
      have er : putF f v ((k, x) :: ws) = if k = f then (k, v) :: ws else (k, x) :: putF f v ws := rfl
      by_cases hk : k = f
      · rw [er, if_pos hk]
        simp only [List.map_cons, putN, putV, if_pos hk]
        exact ⟨trivial, .cons h is⟩
      · obtain ⟨h1, h2⟩ := put_ws (f := f) rfl is h
        rw [er, if_neg hk]
        simp only [List.map_cons, putN, putV, if_neg hk, h1]
        exact ⟨trivial, .cons i h2⟩
theorem len_ws {ws : List (Str × V)} {fs : List Str} (e : ws.map (·.1) = fs) : ws.length = fs.length := by rw [← e, List.length_map]
end

/-! ### one operand -/
def app1 (f : D → Option Rf) (x : Rf) : M Rf := fun Γ => match rsv Γ x with
  | some d => lift (f d) Γ
  | none => none
def sOne (f : D → Option Rf) (a : M Rf) : M Rf := bnd (opnd a) (app1 f)
theorem Run.app1 {T : Tx} {B F0 F1 F : Hp} {Γ1 Γ : List Sl} {σ : L2.St} {H1 H : Hp} {Q : VK} {f : D → Option Rf} {x : Rf} {v : V} (r : Run T B F0 (DL.app1 f x) F Γ σ H fun r F' Γ' H' => ∀ v, IsRf T.X.K T.cm B F' Γ' σ H' v r → Q v H')
    (hv : IsRf T.X.K T.cm B F1 Γ1 σ H1 v x) (q : Same F1 F) : ∃ d, Same F H ∧ IsT T.X.K T.cm F H v d ∧ Res T F H Q (f d) := by
  obtain ⟨S, r⟩ := r
  rcases e1 : rsv Γ x with _ | d1
  · simp only [DL.app1, e1] at r
  · exact ⟨d1, S.fh, hv.rsv q S e1, Run.lift (Γ := Γ) ⟨S, by simpa only [DL.app1, e1] using r⟩⟩

/-! ### o.f -/
def fldF (c : Nat) (f : Str) : D → Option Rf
  | .ins c' fs vs => if c' = c then (lookD fs vs f).map .dat else none
  | _ => none
section
variable {T : Tx} {o e : Expr} {co ce : M Rf} {pos pos' : Pos} {f m x : Str} {k : Nat}
theorem re_fld (c : Nat) (hc : Cls T.X.K (T.cm c)) (hn : NoAttr T.X.K (T.cm c) f) (ho : RE T o co) (hb : attributeBase o f T.X.env (eval o T.X.env) = eval o T.X.env := by rfl) : RE T (.Attribute o f pos) (sOne (fldF c f) co) := fun B F0 =>
  (pe_fld (re_opnd ho B F0) hb).weak fun σ H Q ⟨F, Γ, r⟩ => ⟨F, Γ, r.bnd.mono fun y F1 Γ1 H1 q1 S1 r1 v hv => by
    obtain ⟨d, fh, i, h⟩ := r1.app1 hv (.refl _)
    cases d with
    | ins c' fs vs =>
      simp only [fldF] at h
      split at h
      · rename_i hcc
        subst hcc
        obtain ⟨a, dx, ws, rfl, g1, g2, g3⟩ := i.ins fh
        rcases el : lookD fs vs f with _ | d
        · rw [el] at h; exact h.elim
        · rw [el] at h
          obtain ⟨u, h1, h2⟩ := look_ws g2 g3 el
          exact ⟨a, _, dx, ws, u, rfl, g1, hc, hn, h1, h.val fh h2⟩
      · exact h.elim
    | _ => exact h.elim⟩

/-! ### o.f = e, o the lent object -/
def putM (c : Nat) (f : Str) : Fm := fun d ds => match d, ds with
  | .ins c' fs vs, [y] => if c' = c ∧ fs.length < 1000 then some (.ok (.dat .non), .ins c (putN f fs) (putV f y fs vs)) else none
  | _, _ => none
def sPutF (c : Nat) (f : Str) (a b : M Rf) : M Fl := bnd (cap b) fun d => bnd a fun r => bnd (lendA (putM c f) r [d]) fun _ => ret .nx
theorem RunS.lendA {φ : Fm} {r0 : Rf} {ds : List D} {B F0 F : Hp} {Γ : List Sl} {σ : L2.St} {H : Hp} {P : Rf → Hp → List Sl → L2.St → Hp → Prop} {v : V} (r : RunS T B F0 (DL.lendA φ r0 ds) F Γ σ H P) (hv : IsRf T.X.K T.cm B F Γ σ H v r0) :
    ∃ a ho d0 r1 d1 i, v = .ref a ∧ F a = none ∧ H a = some ho ∧ OwnIs T.X.K T.cm F ho d0 ∧ φ d0 ds = some (r1, d1) ∧ ∀ d, r1 = .ok (.dat d) → ∀ ho1 H', StepM a F H F H' → H' a = some ho1 → OwnIs T.X.K T.cm F ho1 d1 → P (.dat d) F (Γ.set i (.own d1)) σ H' := by
  cases r0 with
  | dat d => exact r.2.elim
  | own d => exact r.2.elim
  | slot i =>
    obtain ⟨S, r⟩ := r
    have hv := hv.1
    unfold DL.lendA DL.lendX at r
    simp only at r
    rcases q : Γ[i]? with _ | sl
    · simp only [q] at r
    cases sl with
    | un => simp only [q] at r
    | dat d => simp only [q] at r
    | own d0 =>
      simp only [q] at r
      obtain ⟨a, ho, h1, h2, h3, h4, h5⟩ := S.ow i d0 q
      rw [h1] at hv; injection hv with hv; injection hv with hv; subst hv
      rcases e : φ d0 ds with _ | ⟨r1, d1⟩
      · simp only [e] at r
      · refine ⟨a, ho, d0, r1, d1, i, rfl, h2, h4, h5, e, fun d hd ho1 H' t k1 k2 => ?_⟩
        subst hd
        simp only [e] at r
        exact r F H' σ (.refl _) (S.write q h1 t.hh t.ff t.fh t.nw k1 k2)
theorem rs_putF (c : Nat) (hc : Cls T.X.K (T.cm c)) (hn : NoAttr T.X.K (T.cm c) f) (ho : RE T o co) (he : RE T e ce) (hs : swapsWith e (some (.Attribute o f pos')) pos.line T.X.env = pure false := by rfl) : RS T (.Assign [.Attribute o f pos'] e pos) (sPutF c f co ce) := fun B F0 =>
  (ps_fld (ho B F0) (rd_of he B F0) hs).weak fun D σ H ⟨F, Γ, r⟩ => ⟨F, Γ, r.bnd.run.mono fun d F1 Γ1 H1 q1 S1 r1 v hv => ⟨F1, Γ1, r1.bnd.run.mono fun r0 F2 Γ2 H2 q2 S2 r2 u hu => by
    obtain ⟨a, ho, d0, r1, d1, i, rfl, h2, h4, h5, hφ, k⟩ := r2.bnd.lendA hu
    cases d0 with
    | ins c' fs vs =>
      simp only [putM] at hφ
      split at hφ
      · rename_i hcc
        obtain ⟨rfl, hl⟩ := hcc
        simp only [Option.some.injEq, Prod.mk.injEq] at hφ
        obtain ⟨rfl, rfl⟩ := hφ
        cases h5 with
        | ins hf hs =>
          obtain ⟨p1, p2⟩ := put_ws (f := f) hf hs (hv.mono q2 _)
          exact ⟨a, _, _, _, rfl, h4, hc, hn, by rw [len_ws hf]; exact hl, (k _ rfl _ _ (step_upd S2.fh h2) upd_same (.ins p1 p2)).ret.2⟩
      · cases hφ
    | _ => cases hφ⟩⟩

/-! ### C(e, ..) -/
theorem grd_make {A : Around} {C : Addr} {us : List Value} {kw : List (Str × Value)} (h : A.guards = some []) : (A.under (.builtin "type.__call__" ⟨.ref C :: us, kw⟩)).guards = some [] := by
  have hg : (Code.builtin "type.__call__" ⟨.ref C :: us, kw⟩).isGuard = false := by
    show guardIds.contains "type.__call__" = false
    decide
  simp [Around.under, Code.guards, hg, pushGuards, h]
structure DefMk (P : Program) (w : World) (K : PySem.W.Frag) (mg : Str → Option Value) (base : Heap) (cm : Nat → Addr) (k : Nat) (x : Str) (c : Nat) (ps : List Str) (φ : Fm) : Prop where
  ex : ∃ f fd, mg x = some (.ref (cm c)) ∧ Mk K (cm c) f ∧ Binds K fd ps [] ∧ FnG P w K mg base k f fd ps (spM K cm ps.length φ)
def makeF (c n : Nat) (φ : Fm) : Fn := fun ds => if ds.length + 1 = n then match φ (.ins c [] []) ds with
    | some (.ok (.dat .non), d1) => some (.ok (.own d1))
    | some (.error e, _) => some (.error e)
    | _ => none
  else none
variable {p apos : Pos} {es : List Expr} {cs : M (List D)} {ps : List Str} {φ : Fn} {φm : Fm}
theorem re_make (c : Nat) (G : DefMk T.X.prog T.X.w T.X.K T.X.mg T.X.base T.cm k x c ps φm) (ck : Cok T (k + 1)) (ha : RA T (e :: es) cs) (hg : Gl T.X x := by rfl) (hdb : (x == ("__debug__" : Str)) = false := by decide)
    (he : starEach (e :: es) T.X.env = (false, eval e T.X.env) :: starEach es T.X.env := by rfl) (hpl : (backTo pos (starEach es T.X.env)).any (·.1) = false := by rfl) : RE T (.Call (.Name x p) (e :: es) [] pos) (sCallF (makeF c ps.length φm) cs) := fun B F0 => by
  obtain ⟨f, fd, hm, hM, hb, F⟩ := G.ex
  refine ⟨fun pins s σ H Q I ⟨F1, Γ1, r⟩ => ?_⟩
  refine wpAny_Call_Name_kw (ld_glob I hg hm ?_ hdb)
  refine PySem.W.callWith_K (h₀ := T.X.base) I.ok.mod.kin hM.kp (thn ((ha B F0).run pos pins s σ H (fun vs H1 => ∃ F2 ds r0, Same F2 H1 ∧ IsAll T.X.K T.cm F2 vs ds ∧ makeF c ps.length φm ds = some r0 ∧ ResX T.X.K T.cm F2 H1 Q (WE T.W σ) r0) I ⟨F1, Γ1, r.bnd.mono fun ds F2 Γ2 H2 q2 S2 r2 vs hvs => ?_⟩) fun us s1 ⟨vs, H1, I1, rv, F2, ds, r0, fh, hvs, e0, h0⟩ => ⟨I1.kIn, ?_⟩) he hpl
  · obtain ⟨r0, e0, h0⟩ := r2.liftX
    exact ⟨F2, ds, r0, S2.fh, hvs, e0, h0⟩
  · have I2 := Inv.made (C := T.cm c) I1
    have n1 : H1 (s1.heap.objs.size + 1) = none := I1.hok.fresh (Nat.le_succ _)
    have n2 : H1 s1.heap.objs.size = none := I1.hok.fresh (Nat.le_refl _)
    have ne : s1.heap.objs.size ≠ s1.heap.objs.size + 1 := Nat.ne_of_lt (Nat.lt_succ_self _)
    generalize hx : s1.heap.objs.size + 1 = x0 at *
    generalize hdx : s1.heap.objs.size = dx at *
    have sH : Same H1 (upd (upd H1 dx (.own x0)) x0 (.ins (T.cm c) dx [])) := fun b o e => by
      rw [upd_ne (ne_of_none e n1), upd_ne (ne_of_none e n2)]; exact e
    unfold makeF at e0
    split at e0
    · rename_i hl
      rcases eφ : φm (.ins c [] []) ds with _ | ⟨r1, d1⟩
      · simp only [eφ] at e0; cases e0
      have toStep : ∀ {F' H' : Hp}, StepM x0 F2 (upd (upd H1 dx (.own x0)) x0 (.ins (T.cm c) dx [])) F' H' → Step F2 H1 F' H' := fun t => ⟨fun b o e => t.hh b o (ne_of_none e n1) (sH b o e), t.ff, t.fh, fun p o e => by
        rcases t.nw p o e with h | h
        · exact .inl h
        · refine .inr ?_
          by_cases hp : p = x0
          · subst hp; exact n1
          · rw [upd_ne hp] at h
            by_cases hp2 : p = dx
            · subst hp2; exact n2
            · rw [upd_ne hp2] at h; exact h⟩
      have xF : ∀ {F' H' : Hp}, StepM x0 F2 (upd (upd H1 dx (.own x0)) x0 (.ins (T.cm c) dx [])) F' H' → F' x0 = none := fun {F' H'} t => by
        cases z : F' x0 with
        | none => rfl
        | some o =>
          rcases t.nw x0 o z with h | h
          · rw [fh.free n1] at h; cases h
          · rw [upd_same] at h; cases h
      have hq : spM T.X.K T.cm ps.length φm (.ref x0 :: vs) (upd (upd H1 dx (.own x0)) x0 (.ins (T.cm c) dx [])) (fun v H2 => v = .non ∧ Q (.ref x0) H2) (WE T.W σ) := by
        refine ⟨F2, x0, _, .ins c [] [], vs, ds, r1, d1, rfl, by simp only [List.length_cons, hvs.length, hl], fh.trans sH, fh.free n1, upd_same, .ins rfl .nil, hvs, eφ, ?_⟩
        match r1, eφ with
        | .ok (.dat .non), eφ =>
          simp only [eφ, Option.some.injEq] at e0
          subst e0
          intro v ho1 F' H' t k1 k2 iv
          exact ⟨IsT.non (H := H') (.inl iv), h0 x0 ho1 F' H' (toStep t) n1 (xF t) k1 k2⟩
        | .error er, eφ =>
          simp only [eφ, Option.some.injEq] at e0
          subst e0
          exact fun ho1 F' H' cls d t k1 k2 ie => h0 F' H' cls d (toStep t) ie
        | .ok (.dat (.bl _)), eφ => simp only [eφ] at e0; cases e0
        | .ok (.dat (.int _)), eφ => simp only [eφ] at e0; cases e0
        | .ok (.dat (.str _)), eφ => simp only [eφ] at e0; cases e0
        | .ok (.dat (.ty _)), eφ => simp only [eφ] at e0; cases e0
        | .ok (.dat (.cls _)), eφ => simp only [eφ] at e0; cases e0
        | .ok (.dat (.lst _)), eφ => simp only [eφ] at e0; cases e0
        | .ok (.dat (.tup _)), eφ => simp only [eφ] at e0; cases e0
        | .ok (.dat (.dic _ _)), eφ => simp only [eφ] at e0; cases e0
        | .ok (.dat (.ins _ _ _)), eφ => simp only [eφ] at e0; cases e0
        | .ok (.dat (.exc _ _ _)), eφ => simp only [eφ] at e0; cases e0
        | .ok (.own _), eφ => simp only [eφ] at e0; cases e0
        | .ok (.slot _), eφ => simp only [eφ] at e0; cases e0
      have r2 : Vals (V.ref x0 :: vs) (Value.ref x0 :: us) := .cons rfl rv
      have hl2 : (Value.ref x0 :: us ++ []).length = ps.length := by
        have e := r2.length
        rw [F.len _ _ _ _ hq] at e
        simpa using e.symm
      have hbb := hb _ (Value.ref x0 :: us) I2.kIn hl2
      rw [List.append_nil] at hbb
      have goal : wpAny (model T.X.prog T.X.w) T.X.A (call (.ref (T.cm c)) us) (EP T.X pins σ Q) T.X.xe s1 := by
        refine wpAny_call (make_map (f := f) I1.kIn hM.makes hM.init (beq_iff_eq.mp hM.fn) ?_)
        simp only [hx, hdx]
        refine codeAny_mono (F.run _ T.X.stack _ _ ⟨Value.ref x0 :: us, []⟩ (Value.ref x0 :: us) _ _ (WE T.W σ) (ck.room.make (T.cm c) us []) (grd_make ck.grd) (I2.env0.make (T.cm c) us []) hbb r2 hq) fun r s' hq' => ?_
        cases r with
        | error er => exact passAt ck.tk σ pins _ _ er s' I2 hq'
        | ok fl =>
          cases fl with
          | ret u =>
            obtain ⟨v, H', I3, rv', ev, q3⟩ := I2.after hq'
            subst ev
            exact ⟨rv', ⟨V.ref x0, H', I3, rfl, q3⟩⟩
          | next => exact False.elim hq'
          | brk => exact False.elim hq'
          | cont => exact False.elim hq'
      exact goal
    · cases e0
end
end DL

/-! DL12: methods, properties, constants of classes, len of an object. -/
namespace DL
open PySem L2 PyProof.Rows

/-- an instance of class c without a field m -/
def isInsB (c : Nat) (m : Str) : D → Bool
  | .ins c' fs _ => decide (c' = c) && !fs.contains m
  | _ => false
def insA (c : Nat) (m : Str) (d : D) : M Unit := if isInsB c m d then ret () else fail
theorem isInsB_of {T : Tx} {c : Nat} {m : Str} {d : D} {F H : Hp} {v : V} (h : isInsB c m d = true) (fh : Same F H) (i : IsT T.X.K T.cm F H v d) : ∃ a dx ws, v = .ref a ∧ H a = some (.ins (T.cm c) dx ws) ∧ ws.lookup m = none := by
  cases d with
  | ins c' fs vs =>
    simp only [isInsB, Bool.and_eq_true, decide_eq_true_eq, Bool.not_eq_true'] at h
    obtain ⟨rfl, h2⟩ := h
    obtain ⟨a, dx, ws, e, g1, g2, g3⟩ := i.ins fh
    exact ⟨a, dx, ws, e, g1, look_none g2 h2⟩
  | _ => cases h
/-- a method of the class at c: it looks at its object | it is lent it -/
structure DefMet (P : Program) (w : World) (K : PySem.W.Frag) (mg : Str → Option Value) (base : Heap) (cm : Nat → Addr) (k : Nat) (c : Nat) (m : Str) (ps : List Str) (φ : Fn) : Prop where
  ex : ∃ f fd, Cls K (cm c) ∧ Meth K (cm c) m f ∧ Binds K fd ps [] ∧ FnG P w K mg base k f fd ps (spD K cm ps.length φ)
structure DefMetM (P : Program) (w : World) (K : PySem.W.Frag) (mg : Str → Option Value) (base : Heap) (cm : Nat → Addr) (k : Nat) (c : Nat) (m : Str) (ps : List Str) (φ : Fm) : Prop where
  ex : ∃ f fd, Cls K (cm c) ∧ Meth K (cm c) m f ∧ Binds K fd ps [] ∧ FnG P w K mg base k f fd ps (spM K cm ps.length φ)
def sMeth (c : Nat) (m : Str) (φ : Fn) (a : M Rf) (cs : M (List D)) : M Rf := bnd (cap a) fun d => bnd (insA c m d) fun _ => bnd cs fun ds => liftX (φ (d :: ds))
def sMethM (c : Nat) (m : Str) (φ : Fm) (a : M Rf) (cs : M (List D)) : M Rf := sMut (isInsB c m) φ a cs
section
variable {T : Tx} {o e : Expr} {es : List Expr} {co ce : M Rf} {cs : M (List D)} {pos p apos : Pos} {f m x : Str} {k : Nat} {ps : List Str} {φ : Fn} {φm : Fm}
theorem insA_run {c : Nat} {d : D} {B F0 F : Hp} {Γ : List Sl} {σ : L2.St} {H : Hp} {P : Unit → Hp → List Sl → Hp → Prop} (r : Run T B F0 (insA c m d) F Γ σ H P) : isInsB c m d = true ∧ T.Sat B F0 F Γ σ H ∧ P () F Γ H := by
  unfold insA at r
  split at r
  · rename_i h; exact ⟨h, r.ret⟩
  · exact r.2.elim
theorem re_meth {pl : Sem Bool} (c : Nat) (G : DefMet T.X.prog T.X.w T.X.K T.X.mg T.X.base T.cm k c m ps φ) (ck : Cok T k) (ho : RE T o co) (ha : RA T (e :: es) cs)
    (hst : starEach (e :: es) T.X.env = (false, eval e T.X.env) :: starEach es T.X.env := by rfl) (hpl : (backTo pos (starEach es T.X.env)).any (·.1) = false := by rfl)
    (ht : eval (.Call (.Attribute o m apos) (e :: es) [] pos) T.X.env = (do
      let ov ← eval o T.X.env
      standAt apos.atName
      let (f, first) ← holding [ov] (getMethod ov m pl)
      callWith pos f first (backTo pos (starEach (e :: es) T.X.env)) (backToKw pos (keywordEach [] T.X.env))) := by rfl) :
    RE T (.Call (.Attribute o m apos) (e :: es) [] pos) (sMeth c m (argN ps.length φ) co cs) := fun B F0 => by
  obtain ⟨f, fd, hC, hM, hb, F⟩ := G.ex
  refine ⟨fun pins s σ H Q I ⟨F1, Γ1, r⟩ => ?_⟩
  refine PySem.W.methodCall_KW (pl := pl) (thn ((rd_of ho B F0).run pins s σ H (fun v H1 => (∃ a dx ws, v = .ref a ∧ H1 a = some (.ins (T.cm c) dx ws) ∧ ws.lookup m = none) ∧ tA T B F0 cs σ H1 fun vs H2 => spD T.X.K T.cm ps.length φ (v :: vs) H2 Q (WE T.W σ)) I
    ⟨F1, Γ1, r.bnd.mono fun d F2 Γ2 H2 q2 S2 r2 v hv => ?_⟩) fun u s1 ⟨v, H1, I1, rv, ⟨a, dx, ws, ev, ea, l⟩, q⟩ => ?_) ht
  · obtain ⟨hi, S3, r3⟩ := insA_run r2.bnd
    refine ⟨isInsB_of hi S3.fh (.inl hv), F2, Γ2, r3.bnd.mono fun ds F3 Γ3 H3 q3 S4 r4 vs hvs => ?_⟩
    obtain ⟨r0, e0, h0⟩ := r4.liftX
    unfold argN at e0
    split at e0
    · rename_i hn
      exact ⟨F3, d :: ds, r0, by rw [← hn]; simp [hvs.length], S4.fh, .cons (hv.mono q3 _) hvs, e0, h0⟩
    · cases e0
  · subst ev
    obtain rfl : u = Value.ref a := rv
    refine getmeth_ok I1 ea hC hM l ?_
    refine PySem.W.callWith_K (first := [.ref a]) (h₀ := T.X.base) I.ok.mod.kin hM.kp (thn ((ha B F0).run pos pins s1 σ H1 _ I1 q) fun us s2 ⟨vs, H2, I2, r, q2⟩ => ⟨I2.kIn, ?_⟩) hst hpl
    exact run_fnG (us := .ref a :: us) (vs := .ref a :: vs) F ck.room ck.grd hb .nil (passAt ck.tk σ) I2 (.cons rfl r) (by rw [List.append_nil]; exact q2)
theorem re_meth0 {pl : Sem Bool} (c : Nat) (G : DefMet T.X.prog T.X.w T.X.K T.X.mg T.X.base T.cm k c m ps φ) (ck : Cok T k) (ho : RE T o co)
    (ht : eval (.Call (.Attribute o m apos) [] [] pos) T.X.env = (do
      let ov ← eval o T.X.env
      standAt apos.atName
      let (f, first) ← holding [ov] (getMethod ov m pl)
      callWith pos f first (backTo pos (starEach [] T.X.env)) (backToKw pos (keywordEach [] T.X.env))) := by rfl) :
    RE T (.Call (.Attribute o m apos) [] [] pos) (sMeth c m (argN ps.length φ) co sNil) := fun B F0 => by
  obtain ⟨f, fd, hC, hM, hb, F⟩ := G.ex
  refine ⟨fun pins s σ H Q I ⟨F1, Γ1, r⟩ => ?_⟩
  refine PySem.W.methodCall_KW (pl := pl) (thn ((rd_of ho B F0).run pins s σ H (fun v H1 => (∃ a dx ws, v = .ref a ∧ H1 a = some (.ins (T.cm c) dx ws) ∧ ws.lookup m = none) ∧ spD T.X.K T.cm ps.length φ [v] H1 Q (WE T.W σ)) I
    ⟨F1, Γ1, r.bnd.mono fun d F2 Γ2 H2 q2 S2 r2 v hv => ?_⟩) fun u s1 ⟨v, H1, I1, rv, ⟨a, dx, ws, ev, ea, l⟩, q⟩ => ?_) ht
  · obtain ⟨hi, S3, r3⟩ := insA_run r2.bnd
    refine ⟨isInsB_of hi S3.fh (.inl hv), ?_⟩
    obtain ⟨r0, e0, h0⟩ := r3.bnd.ret.2.liftX
    unfold argN at e0
    split at e0
    · rename_i hn
      exact ⟨F2, [d], r0, by rw [← hn]; simp, S3.fh, .cons hv .nil, e0, h0⟩
    · cases e0
  · subst ev
    obtain rfl : u = Value.ref a := rv
    refine getmeth_ok I1 ea hC hM l ?_
    exact PySem.W.callWith_K0 (first := [.ref a]) I1.kIn hM.kp (run_fnG (us := [.ref a]) (vs := [.ref a]) F ck.room ck.grd hb .nil (passAt ck.tk σ) I1 (.cons rfl .nil) (by rw [List.append_nil]; exact q))
/-- the object is a slot's own one, and is lent -/
theorem own_at {B F0 F : Hp} {Γ : List Sl} {σ : L2.St} {H : Hp} {i : Nat} {d : D} {c : Nat} {v : V} (S : T.Sat B F0 F Γ σ H) (hi : Γ[i]? = some (.own d)) (hv : σ[i]? = some (some v)) (hp : isInsB c m d = true) : ∃ a dx ws, v = .ref a ∧ H a = some (.ins (T.cm c) dx ws) ∧ ws.lookup m = none := by
  obtain ⟨a, ho, g1, g2, g3, g4, g5⟩ := S.ow i d hi
  rw [g1] at hv; injection hv with hv; injection hv with hv; subst hv
  exact isInsB_of hp S.fh (.inr ⟨a, ho, rfl, g4, g5⟩)
theorem re_methM {pl : Sem Bool} (c : Nat) (G : DefMetM T.X.prog T.X.w T.X.K T.X.mg T.X.base T.cm k c m ps φm) (ck : Cok T k) (ho : RE T o co) (ha : RA T (e :: es) cs)
    (hst : starEach (e :: es) T.X.env = (false, eval e T.X.env) :: starEach es T.X.env := by rfl) (hpl : (backTo pos (starEach es T.X.env)).any (·.1) = false := by rfl)
    (ht : eval (.Call (.Attribute o m apos) (e :: es) [] pos) T.X.env = (do
      let ov ← eval o T.X.env
      standAt apos.atName
      let (f, first) ← holding [ov] (getMethod ov m pl)
      callWith pos f first (backTo pos (starEach (e :: es) T.X.env)) (backToKw pos (keywordEach [] T.X.env))) := by rfl) :
    RE T (.Call (.Attribute o m apos) (e :: es) [] pos) (sMethM c m (argM ps.length φm) co cs) := fun B F0 => by
  obtain ⟨f, fd, hC, hM, hb, F⟩ := G.ex
  refine ⟨fun pins s σ H Q I ⟨F1, Γ1, r⟩ => ?_⟩
  refine PySem.W.methodCall_KW (pl := pl) (thn ((ho B F0).run pins s σ H (fun v H1 => (∃ a dx ws, v = .ref a ∧ H1 a = some (.ins (T.cm c) dx ws) ∧ ws.lookup m = none) ∧ tA T B F0 cs σ H1 fun vs H2 => spM T.X.K T.cm ps.length φm (v :: vs) H2 Q (WE T.W σ)) I
    ⟨F1, Γ1, r.bnd.mono fun r0 F2 Γ2 H2 q2 S2 r2 v hv => ?_⟩) fun u s1 ⟨v, H1, I1, rv, ⟨a, dx, ws, ev, ea, l⟩, q⟩ => ?_) ht
  · obtain ⟨i, d, rfl, hi, hp, S3, r3⟩ := r2.bnd.ownB
    refine ⟨own_at S3 hi hv.1 hp, F2, Γ2, r3.bnd.mono fun ds F3 Γ3 H3 q3 S4 r4 vs hvs => ?_⟩
    obtain ⟨a, ho, d0, r0, d1, rfl, h1, h2, h3, h4, h5⟩ := Run.lendX r4 hv.1
    unfold argM at h4
    split at h4
    · rename_i hn
      exact ⟨F3, a, ho, d0, vs, ds, r0, d1, rfl, by simp only [List.length_cons, hvs.length, hn], S4.fh, h1, h2, h3, hvs, h4, h5⟩
    · cases h4
  · subst ev
    obtain rfl : u = Value.ref a := rv
    refine getmeth_ok I1 ea hC hM l ?_
    refine PySem.W.callWith_K (first := [.ref a]) (h₀ := T.X.base) I.ok.mod.kin hM.kp (thn ((ha B F0).run pos pins s1 σ H1 _ I1 q) fun us s2 ⟨vs, H2, I2, r, q2⟩ => ⟨I2.kIn, ?_⟩) hst hpl
    exact run_fnG (us := .ref a :: us) (vs := .ref a :: vs) F ck.room ck.grd hb .nil (passAt ck.tk σ) I2 (.cons rfl r) (by rw [List.append_nil]; exact q2)
theorem re_methM0 {pl : Sem Bool} (c : Nat) (G : DefMetM T.X.prog T.X.w T.X.K T.X.mg T.X.base T.cm k c m ps φm) (ck : Cok T k) (ho : RE T o co)
    (ht : eval (.Call (.Attribute o m apos) [] [] pos) T.X.env = (do
      let ov ← eval o T.X.env
      standAt apos.atName
      let (f, first) ← holding [ov] (getMethod ov m pl)
      callWith pos f first (backTo pos (starEach [] T.X.env)) (backToKw pos (keywordEach [] T.X.env))) := by rfl) :
    RE T (.Call (.Attribute o m apos) [] [] pos) (sMethM c m (argM ps.length φm) co sNil) := fun B F0 => by
  obtain ⟨f, fd, hC, hM, hb, F⟩ := G.ex
  refine ⟨fun pins s σ H Q I ⟨F1, Γ1, r⟩ => ?_⟩
  refine PySem.W.methodCall_KW (pl := pl) (thn ((ho B F0).run pins s σ H (fun v H1 => (∃ a dx ws, v = .ref a ∧ H1 a = some (.ins (T.cm c) dx ws) ∧ ws.lookup m = none) ∧ spM T.X.K T.cm ps.length φm [v] H1 Q (WE T.W σ)) I
    ⟨F1, Γ1, r.bnd.mono fun r0 F2 Γ2 H2 q2 S2 r2 v hv => ?_⟩) fun u s1 ⟨v, H1, I1, rv, ⟨a, dx, ws, ev, ea, l⟩, q⟩ => ?_) ht
  · obtain ⟨i, d, rfl, hi, hp, S3, r3⟩ := r2.bnd.ownB
    refine ⟨own_at S3 hi hv.1 hp, ?_⟩
    have r4 : Run T B F0 (lendA (argM ps.length φm) (.slot i) []) F2 Γ2 σ H2 _ := r3.bnd.ret.2
    obtain ⟨a, ho, d0, r0, d1, rfl, h1, h2, h3, h4, h5⟩ := Run.lendX r4 hv.1
    unfold argM at h4
    split at h4
    · rename_i hn
      exact ⟨F2, a, ho, d0, [], [], r0, d1, rfl, by rw [← hn]; simp, S3.fh, h1, h2, h3, .nil, h4, h5⟩
    · cases h4
  · subst ev
    obtain rfl : u = Value.ref a := rv
    refine getmeth_ok I1 ea hC hM l ?_
    exact PySem.W.callWith_K0 (first := [.ref a]) I1.kIn hM.kp (run_fnG (us := [.ref a]) (vs := [.ref a]) F ck.room ck.grd hb .nil (passAt ck.tk σ) I1 (.cons rfl .nil) (by rw [List.append_nil]; exact q))

/-! ### properties (that raise nothing) -/
structure DefPr (P : Program) (w : World) (K : PySem.W.Frag) (mg : Str → Option Value) (base : Heap) (cm : Nat → Addr) (k : Nat) (c : Nat) (f : Str) (φ : Fn) : Prop where
  ex : ∃ p g fd, Cls K (cm c) ∧ PropOf K (cm c) f p g ∧ Binds K fd ["self"] [] ∧ FnG P w K mg base k g fd ["self"] (spD K cm 1 φ)
structure DefPrM (P : Program) (w : World) (K : PySem.W.Frag) (mg : Str → Option Value) (base : Heap) (cm : Nat → Addr) (k : Nat) (c : Nat) (f : Str) (φ : Fm) : Prop where
  ex : ∃ p g fd, Cls K (cm c) ∧ PropOf K (cm c) f p g ∧ Binds K fd ["self"] [] ∧ FnG P w K mg base k g fd ["self"] (spM K cm 1 φ)
theorem getpropG {X : Cx} {pins : List (Addr × Obj)} {σ : L2.St} {H : Hp} {s : Shared} {Q : VK} {b : Bool} {E' : Value → Shared → Prop} {C p g a dx : Addr} {fs : List (Str × V)} {f : Str} {fd : FuncData} {sp : Sp} (I : Inv X pins σ H s) (ea : H a = some (.ins C dx fs)) (c : Cls X.K C) (hp : PropOf X.K C f p g)
    (F : FnG X.prog X.w X.K X.mg X.base k g fd ["self"] sp) (hr : Room (k + 1) X.A) (hgd : X.A.guards = some []) (hb : Binds X.K fd ["self"] []) (h : sp [.ref a] H Q fun _ _ _ => False) : wpAny (model X.prog X.w) X.A (getAttr (.ref a) f b) (EP X pins σ Q) E' s := by
  obtain ⟨mA, O, _, _, _, _⟩ := ins_get I.hok ea
  obtain ⟨od, J, _⟩ := O.look
  obtain ⟨rest, hrec⟩ := hp.rec_
  have I1 := I.tok (s.toks + 1)
  have hc : (PySem.W.clsIn X.K C).isSome = true := by
    obtain ⟨cd, hc, _⟩ := PySem.W.any_some c.hd
    rw [hc]
    rfl
  have hbb := hb { s with toks := s.toks + 1 } [.ref a] I1.kIn rfl
  rw [List.append_nil] at hbb
  refine PySem.W.get_bind I.kIn J (PySem.W.plainGet_of (c.get f)).1 (PySem.W.findObj_data hc hp.at_ hp.get hp.tak) (PySem.W.plainGet_of (c.get f)).2 (wpAny_call (PySem.W.prop_get (s := { s with toks := s.toks + 1 }) I.kIn hrec ?_))
  refine codeAny_mono (F.run X.A.in1 X.stack { s with toks := s.toks + 1 } H ⟨[.ref a], []⟩ [.ref a] [.ref a] Q (fun _ _ _ => False) hr.in1 hgd I1.env0.in1 hbb (.cons rfl .nil) h) fun r s' hq => ?_
  cases r with
  | error er =>
    obtain ⟨_, _, _, _, _, _, _, _, _, _, _, _, z⟩ := hq
    exact z.elim
  | ok fl =>
    cases fl with
    | ret u =>
      obtain ⟨v, H', I3, rv, q3⟩ := I1.after hq
      show wpAny _ _ (handedOut u) _ _ _
      rw [PySem.W.handedOut_of (handed_of rv)]
      exact wpAny_pure ⟨v, H', I3, rv, q3⟩
    | next => exact False.elim hq
    | brk => exact False.elim hq
    | cont => exact False.elim hq
/-- no exception -/
def okX (o : Option Ans) : M Rf := fun Γ => match o with
  | some (.ok (.dat d)) => some (.ok (.dat d), Γ)
  | some (.ok (.own d)) => some (.ok (.own d), Γ)
  | _ => none
def sProp (c : Nat) (φ : Fn) (a : M Rf) : M Rf := bnd (cap a) fun d => bnd (insA c "" d) fun _ => okX (φ [d])
theorem Run.okX {o : Option Ans} {B F0 F : Hp} {Γ : List Sl} {σ : L2.St} {H : Hp} {Q : VK} (r : Run T B F0 (DL.okX o) F Γ σ H fun r F' Γ' H' => ∀ v, IsRf T.X.K T.cm B F' Γ' σ H' v r → Q v H') : ∃ r, o = some r ∧ ResX T.X.K T.cm F H Q (fun _ _ _ => False) r := by
  obtain ⟨S, r⟩ := r
  match o, r with
  | some (.ok (.dat d)), r => exact ⟨_, rfl, fun v F' H' t i => r F' H' t.ff (S.step t) v i⟩
  | some (.ok (.own d)), r =>
    refine ⟨_, rfl, fun a ho F' H' t n n' e h => r F' H' t.ff (S.step t) _ ⟨a, ho, rfl, n', S.bh.free n, e, h, fun i e' hg hs => ?_⟩⟩
    obtain ⟨a', ho', g1, _, _, g4, _⟩ := S.ow i e' hg
    rw [g1] at hs; injection hs with hs; injection hs with hs; injection hs with hs; subst hs
    rw [n] at g4; cases g4
  | some (.ok (.slot i)), r => exact r.elim
  | some (.error e), r => exact r.elim
  | none, r => exact r.elim
theorem re_prop (c : Nat) (G : DefPr T.X.prog T.X.w T.X.K T.X.mg T.X.base T.cm k c f φ) (ck : Cok T (k + 1)) (ho : RE T o co) (hab : attributeBase o f T.X.env (eval o T.X.env) = eval o T.X.env := by rfl) : RE T (.Attribute o f pos) (sProp c φ co) := fun B F0 => by
  obtain ⟨p, g, fd, hC, hP, hb, F⟩ := G.ex
  refine ⟨fun pins s σ H Q I ⟨F1, Γ1, r⟩ => ?_⟩
  refine attr_of hab (thn ((rd_of ho B F0).run pins s σ H (fun v H1 => (∃ a dx ws, v = .ref a ∧ H1 a = some (.ins (T.cm c) dx ws)) ∧ spD T.X.K T.cm 1 φ [v] H1 Q fun _ _ _ => False) I ⟨F1, Γ1, r.bnd.mono fun d F2 Γ2 H2 q2 S2 r2 v hv => ?_⟩) fun u s1 ⟨v, H1, I1, rv, ⟨a, dx, ws, ev, ea⟩, q⟩ => ?_)
  · obtain ⟨hi, S3, r3⟩ := insA_run r2.bnd
    obtain ⟨a, dx, ws, e1, e2, _⟩ := isInsB_of (T := T) hi S3.fh (.inl hv)
    obtain ⟨r0, e0, h0⟩ := r3.okX
    exact ⟨⟨a, dx, ws, e1, e2⟩, F2, [d], r0, rfl, S3.fh, .cons hv .nil, e0, h0⟩
  · subst ev
    obtain rfl : u = Value.ref a := rv
    exact getpropG I1 ea hC hP F ck.room ck.grd hb q
/-- the property of a slot's own object, lent -/
def lendOk (φ : Fm) : Fm := fun d ds => match φ d ds with
  | some (.ok r, d1) => some (.ok r, d1)
  | _ => none
def sPropM (c : Nat) (φ : Fm) (a : M Rf) : M Rf := bnd a fun r => bnd (ownB (isInsB c "") r) fun _ => lendA (lendOk φ) r []
theorem ResM.ok {K : PySem.W.Frag} {cm : Nat → Addr} {a : Addr} {F H : Hp} {Q : VK} {E E' : XK} {d1 : D} {r : Rf} (h : ResM K cm a F H Q E d1 (.ok r)) : ResM K cm a F H Q E' d1 (.ok r) := by
  cases r <;> exact h
theorem re_propM (c : Nat) (G : DefPrM T.X.prog T.X.w T.X.K T.X.mg T.X.base T.cm k c f φm) (ck : Cok T (k + 1)) (ho : RE T o co) (hab : attributeBase o f T.X.env (eval o T.X.env) = eval o T.X.env := by rfl) : RE T (.Attribute o f pos) (sPropM c φm co) := fun B F0 => by
  obtain ⟨p, g, fd, hC, hP, hb, F⟩ := G.ex
  refine ⟨fun pins s σ H Q I ⟨F1, Γ1, r⟩ => ?_⟩
  refine attr_of hab (thn ((ho B F0).run pins s σ H (fun v H1 => (∃ a dx ws, v = .ref a ∧ H1 a = some (.ins (T.cm c) dx ws)) ∧ spM T.X.K T.cm 1 φm [v] H1 Q fun _ _ _ => False) I ⟨F1, Γ1, r.bnd.mono fun r0 F2 Γ2 H2 q2 S2 r2 v hv => ?_⟩) fun u s1 ⟨v, H1, I1, rv, ⟨a, dx, ws, ev, ea⟩, q⟩ => ?_)
  · obtain ⟨i, d, rfl, hi, hp, S3, r3⟩ := r2.bnd.ownB
    obtain ⟨a, dx, ws, e1, e2, _⟩ := own_at S3 hi hv.1 hp
    obtain ⟨a', ho', d0, r0, d1, e3, h1, h2, h3, h4, h5⟩ := Run.lendX r3 hv.1
    unfold lendOk at h4
    split at h4
    · rename_i r1 d1' eφ
      simp only [Option.some.injEq, Prod.mk.injEq] at h4
      obtain ⟨rfl, rfl⟩ := h4
      exact ⟨⟨a, dx, ws, e1, e2⟩, F2, a', ho', d0, [], [], .ok r1, d1', by rw [e3], rfl, S3.fh, h1, h2, h3, .nil, eφ, h5.ok⟩
    · cases h4
  · subst ev
    obtain rfl : u = Value.ref a := rv
    exact getpropG I1 ea hC hP F ck.room ck.grd hb q

/-! ### C.f, o.f with f a constant of the class; classes as values -/
theorem re_clsCon (c : Nat) {mc : Value} {v : V} {u : Value} {d : D} (hm : T.X.mg x = some (.ref (T.cm c))) (hr : ClX.CRead T.X.K (T.cm c) mc) (hv : ClX.CVal T.X.K (T.cm c) mc f v u) (i : ∀ F, T.Is F v d) (hg : Gl T.X x := by rfl) (hd : (x == ("__debug__" : Str)) = false := by decide)
    (hb : attributeBase (.Name x p) f T.X.env (eval (.Name x p) T.X.env) = eval (.Name x p) T.X.env := by rfl) : RE T (.Attribute (.Name x p) f pos) (sK d) :=
  re_const (v := v) ((ClX.pe_cval (pe_glob (v := .ref (T.cm c)) hg hm rfl hd) hb).weak fun σ H Q q => ⟨_, mc, v, u, rfl, hr, hv, q⟩) i
def conF (c : Nat) (f : Str) (d0 : D) : D → Option Rf := fun d => if isInsB c f d then some (.dat d0) else none
theorem re_insCon (c : Nat) {v : V} {u : Value} {d : D} (hc : Cls T.X.K (T.cm c)) (hk : Con T.X.K (T.cm c) f v u) (i : ∀ F, T.Is F v d) (ho : RE T o co) (hb : attributeBase o f T.X.env (eval o T.X.env) = eval o T.X.env := by rfl) : RE T (.Attribute o f pos) (sOne (conF c f d) co) := fun B F0 =>
  (pe_con (re_opnd ho B F0) hb).weak fun σ H Q ⟨F, Γ, r⟩ => ⟨F, Γ, r.bnd.mono fun y F1 Γ1 H1 q1 S1 r1 w hw => by
    obtain ⟨d', fh, ix, h⟩ := r1.app1 hw (.refl _)
    unfold conF at h
    split at h
    · rename_i hi
      obtain ⟨a, dx, ws, e1, e2, e3⟩ := isInsB_of (T := T) hi fh ix
      exact ⟨a, _, dx, ws, v, u, e1, e2, hc, hk, e3, h.val fh (i F1)⟩
    · exact h.elim⟩
theorem re_clsV (c : Nat) (hm : T.X.mg x = some (.ref (T.cm c))) (hg : Gl T.X x := by rfl) (hd : (x == ("__debug__" : Str)) = false := by decide) : RE T (.Name x pos) (sK (.cls c)) := re_glob hm (v := .ref (T.cm c)) rfl (fun F => .cls c) hg hd

/-! ### len(o) by the class's own __len__ -/
structure DefLen (P : Program) (w : World) (K : PySem.W.Frag) (mg : Str → Option Value) (base : Heap) (cm : Nat → Addr) (k : Nat) (c : Nat) (φ : Fn) : Prop where
  ex : ∃ g fd, PySem.W.findIn K (.ref (cm c)) "__len__" = some (some (.ref g)) ∧ PySem.W.isFn K (.ref g) = true ∧ Binds K fd ["self"] [] ∧ FnG P w K mg base k g fd ["self"] (spD K cm 1 φ)
def lenOF (c : Nat) (φ : Fn) : List D → Option Rf
  | [d] => if isInsB c "" d then match φ [d] with
      | some (.ok (.dat (.int n))) => if 0 ≤ n ∧ n < 9223372036854775808 then some (.dat (.int n)) else none
      | _ => none
    else none
  | _ => none
def sLenO (c : Nat) (φ : Fn) (cs : M (List D)) : M Rf := bnd cs fun ds => lift (lenOF c φ ds)
theorem re_lenO (c : Nat) (G : DefLen T.X.prog T.X.w T.X.K T.X.mg T.X.base T.cm k c φ) (ck : Cok T (k + 1)) (ha : RA T [e] cs) (hm : T.X.mg "len" = none) (hg : Gl T.X "len" := by rfl)
    (he : starEach [e] T.X.env = (false, eval e T.X.env) :: starEach [] T.X.env := by rfl) (hpl : (backTo pos (starEach [] T.X.env)).any (·.1) = false := by rfl) : RE T (.Call (.Name "len" p) [e] [] pos) (sLenO c φ cs) := fun B F0 => by
  obtain ⟨g, fd, h1, h2, hb, F⟩ := G.ex
  have rule : CallR T.X (.builtin "len") (fun vs H Q => ∃ F ds, Same F H ∧ IsAll T.X.K T.cm F vs ds ∧ Res T F H Q (lenOF c φ ds)) := by
    intro pins s σ H vs us Q I rv ⟨F1, ds, fh, ia, hres⟩
    match ds, ia, hres with
    | [d], .cons (v := v) i .nil, hres =>
      obtain ⟨u, rfl, ru⟩ := vals1 rv
      simp only [lenOF] at hres
      split at hres
      · rename_i hi
        obtain ⟨a, dx, ws, rfl, ea, _⟩ := isInsB_of (T := T) hi fh (.inl i)
        cases ru
        rcases eφ : φ [d] with _ | r0
        · rw [eφ] at hres; exact hres.elim
        · match r0, eφ with
          | .ok (.dat (.int n)), eφ =>
            simp only [eφ] at hres
            split at hres
            · rename_i hn
              obtain ⟨mA, O, _⟩ := ins_get I.hok ea
              obtain ⟨od, J, _⟩ := O.look
              obtain ⟨m, fr⟩ := I.fr
              refine PySem.W.len_K fr I.ok.mod.kin J h1 h2 ?_
              have hbb := hb s [.ref a] I.kIn rfl
              rw [List.append_nil] at hbb
              refine wpAny_call (codeAny_mono (F.run T.X.A.in1 T.X.stack s H ⟨[.ref a], []⟩ [.ref a] [.ref a] (fun w H' => w = .int n ∧ Q (.int n) H') (fun _ _ _ => False) ck.room.in1 ck.grd I.env0.in1 hbb (.cons rfl .nil) ⟨F1, [d], _, rfl, fh, .cons i .nil, eφ, fun w F' H' t iw => ⟨IsT.int (H := H') (.inl iw), hres _ F' H' t (.int n)⟩⟩) fun r s' hq => ?_)
              cases r with
              | error er =>
                obtain ⟨_, _, _, _, _, _, _, _, _, _, _, _, z⟩ := hq
                exact z.elim
              | ok fl =>
                cases fl with
                | ret u =>
                  obtain ⟨w, H', I3, rw', ew, q3⟩ := I.after hq
                  subst ew
                  obtain ⟨t, rfl⟩ := rw'
                  exact ⟨⟨hn.1, by omega⟩, .int n, H', I3.tok _, ⟨_, rfl⟩, q3⟩
                | next => exact False.elim hq
                | brk => exact False.elim hq
                | cont => exact False.elim hq
            · exact hres.elim
          | .ok (.dat .non), eφ => simp only [eφ] at hres; exact hres.elim
          | .ok (.dat (.bl _)), eφ => simp only [eφ] at hres; exact hres.elim
          | .ok (.dat (.str _)), eφ => simp only [eφ] at hres; exact hres.elim
          | .ok (.dat (.ty _)), eφ => simp only [eφ] at hres; exact hres.elim
          | .ok (.dat (.cls _)), eφ => simp only [eφ] at hres; exact hres.elim
          | .ok (.dat (.lst _)), eφ => simp only [eφ] at hres; exact hres.elim
          | .ok (.dat (.tup _)), eφ => simp only [eφ] at hres; exact hres.elim
          | .ok (.dat (.dic _ _)), eφ => simp only [eφ] at hres; exact hres.elim
          | .ok (.dat (.ins _ _ _)), eφ => simp only [eφ] at hres; exact hres.elim
          | .ok (.dat (.exc _ _ _)), eφ => simp only [eφ] at hres; exact hres.elim
          | .ok (.own _), eφ => simp only [eφ] at hres; exact hres.elim
          | .ok (.slot _), eφ => simp only [eφ] at hres; exact hres.elim
          | .error _, eφ => simp only [eφ] at hres; exact hres.elim
      · exact hres.elim
  exact (pe_callB rule hg hm boot_len (ha B F0) (by decide) (by decide) he hpl).weak fun σ H Q ⟨F1, Γ1, r⟩ => ⟨F1, Γ1, r.bnd.mono fun ds F2 Γ2 H2 q2 S2 r2 vs hvs => ⟨F2, ds, S2.fh, hvs, r2.lift⟩⟩
end
end DL

/-! DL13: own exceptions: raise, try .. except .. as e: x = e. -/
namespace DL
open PySem L2 PyProof.Rows

/-! ### __init__ of an exception with one field, with two -/
def spEx1 (C : Addr) (f : Str) : Sp := fun vs H Q _ => ∃ a y, vs = [.ref a, y] ∧ H a = some (exo a C none) ∧ ∀ dx, H dx = none → dx ≠ a → Q .non (upd (upd H dx (exd dx [(f, y)])) a (exo a C (some dx)))
def spEx2 (C : Addr) (f g : Str) : Sp := fun vs H Q _ => ∃ a y z, vs = [.ref a, y, z] ∧ H a = some (exo a C none) ∧ ∀ dx, H dx = none → dx ≠ a → Q .non (upd (upd (upd H dx (exd dx [(f, y)])) a (exo a C (some dx))) dx (exd dx [(g, z), (f, y)]))
section
variable {P : Program} {w : World} {K : PySem.W.Frag} {mg : Str → Option Value} {base : Heap}
theorem okExc1 {name qual p f : Str} {params : Arguments} {body : List Stmt} {scope : Scope} {fa C : Addr} {dV kV doc pm cdv ct oc : Value} {an od : Option Addr} {osl : Array (Option Value)} {q1 q2 q3 q4 : Pos}
    (lk : K.lookup fa = some ⟨oc, od, .func (PySem.W.fnOf name qual params body scope dV kV doc pm an cdv ct), osl⟩) (hcd : PySem.W.codeIn K cdv qual = true) (S : FnScope ["self", p] ["self", p] scope) (hb : body = [.Assign [.Attribute (.Name "self" q1) f q2] (.Name p q3) q4]) (T : OexC K C)
    (hno : PySem.W.findIn K (.ref C) f = some none) (hs : ∀ env, swapsWith (.Name p q3) (some (.Attribute (.Name "self" q1) f q2)) q4.line env = pure false := by intro _; rfl) (hp : (p == ("__debug__" : Str)) = false := by decide) (hp2 : (p == ("__classdict__" : Str)) = false := by decide) :
    FnOk P w K mg base CX0 1 fa (PySem.W.fnOf name qual params body scope dV kV doc pm an cdv ct) ["self", p] (spEx1 C f) := by
  refine fn_of lk hcd S (fun vs H Q E h => ?_) (fun A outer s H vs Q E hr h => ?_)
  · obtain ⟨a, y, rfl, _⟩ := h
    rfl
  · obtain ⟨a, y, rfl, ea, k⟩ := h
    subst hb
    have vis : ∀ x ∈ ([("self" : Str), p] : List Str), Vis scope x := fun x hx => (S.par x hx).elim .inl fun z => .inr (.inl z)
    refine ⟨_, pss_one (ps_ost (pe_var (i := 0) rfl (vis _ (by simp))) (pe_var (i := 1) rfl (vis _ (by simp)) hp hp2) (hs _)), ?_⟩
    exact ⟨y, rfl, .ref a, rfl, a, C, rfl, T, hno, .inl ⟨ea, fun dx n ne => k dx n ne⟩⟩
theorem okExc2 {name qual p p' f g : Str} {params : Arguments} {body : List Stmt} {scope : Scope} {fa C : Addr} {dV kV doc pm cdv ct oc : Value} {an od : Option Addr} {osl : Array (Option Value)} {q1 q2 q3 q4 r1 r2 r3 r4 : Pos}
    (lk : K.lookup fa = some ⟨oc, od, .func (PySem.W.fnOf name qual params body scope dV kV doc pm an cdv ct), osl⟩) (hcd : PySem.W.codeIn K cdv qual = true) (S : FnScope ["self", p, p'] ["self", p, p'] scope)
    (hb : body = [.Assign [.Attribute (.Name "self" q1) f q2] (.Name p q3) q4, .Assign [.Attribute (.Name "self" r1) g r2] (.Name p' r3) r4]) (T : OexC K C)
    (hno : PySem.W.findIn K (.ref C) f = some none) (hno2 : PySem.W.findIn K (.ref C) g = some none) (hs : ∀ env, swapsWith (.Name p q3) (some (.Attribute (.Name "self" q1) f q2)) q4.line env = pure false := by intro _; rfl) (hs2 : ∀ env, swapsWith (.Name p' r3) (some (.Attribute (.Name "self" r1) g r2)) r4.line env = pure false := by intro _; rfl)
    (hp : (p == ("__debug__" : Str)) = false := by decide) (hp2 : (p == ("__classdict__" : Str)) = false := by decide) (hp' : (p' == ("__debug__" : Str)) = false := by decide) (hp2' : (p' == ("__classdict__" : Str)) = false := by decide) :
    FnOk P w K mg base CX0 1 fa (PySem.W.fnOf name qual params body scope dV kV doc pm an cdv ct) ["self", p, p'] (spEx2 C f g) := by
  refine fn_of lk hcd S (fun vs H Q E h => ?_) (fun A outer s H vs Q E hr h => ?_)
  · obtain ⟨a, y, z, rfl, _⟩ := h
    rfl
  · obtain ⟨a, y, z, rfl, ea, k⟩ := h
    subst hb
    have vis : ∀ x ∈ ([("self" : Str), p, p'] : List Str), Vis scope x := fun x hx => (S.par x hx).elim .inl fun z => .inr (.inl z)
    refine ⟨_, pss_cons (ps_ost (pe_var (i := 0) rfl (vis _ (by simp))) (pe_var (i := 1) rfl (vis _ (by simp)) hp hp2) (hs _)) (pss_one (ps_ost (pe_var (i := 0) rfl (vis _ (by simp))) (pe_var (i := 2) rfl (vis _ (by simp)) hp' hp2') (hs2 _))), ?_⟩
    refine ⟨y, rfl, .ref a, rfl, a, C, rfl, T, hno, .inl ⟨ea, fun dx n ne => ?_⟩⟩
    exact ⟨z, rfl, .ref a, rfl, a, C, rfl, T, hno2, .inr ⟨dx, _, upd_same, by rw [upd_ne ne, upd_same], by show 1 ≤ 900; decide, k dx n ne⟩⟩
end

/-! ### raise C(e) -/
structure DefEx1 (P : Program) (w : World) (K : PySem.W.Frag) (mg : Str → Option Value) (base : Heap) (cm : Nat → Addr) (x : Str) (c : Nat) (f : Str) : Prop where
  ex : ∃ fI fd ps, mg x = some (.ref (cm c)) ∧ OexC K (cm c) ∧ PySem.W.findIn K (.ref (cm c)) "__init__" = some (some (.ref fI)) ∧ PySem.W.typeIn K (.ref fI) = some (.type "function") ∧ Binds K fd ps [] ∧ FnOk P w K mg base CX0 1 fI fd ps (spEx1 (cm c) f)
structure DefEx2 (P : Program) (w : World) (K : PySem.W.Frag) (mg : Str → Option Value) (base : Heap) (cm : Nat → Addr) (x : Str) (c : Nat) (f g : Str) : Prop where
  ex : ∃ fI fd ps, mg x = some (.ref (cm c)) ∧ OexC K (cm c) ∧ PySem.W.findIn K (.ref (cm c)) "__init__" = some (some (.ref fI)) ∧ PySem.W.typeIn K (.ref fI) = some (.type "function") ∧ Binds K fd ps [] ∧ FnOk P w K mg base CX0 1 fI fd ps (spEx2 (cm c) f g)
def excF (c : Nat) (fs : List Str) (ds : List D) : Option D := if ds.length = fs.length then some (.exc c fs.reverse ds.reverse) else none
def sRaise (c : Nat) (fs : List Str) (cs : M (List D)) : M Fl := bnd cs fun ds => match excF c fs ds with
  | some e => throw' e
  | none => fail
section
variable {T : Tx} {e : Expr} {es : List Expr} {cs : M (List D)} {pos p pos2 : Pos} {x f g : Str} {k : Nat}
theorem xd_eq1 {H : Hp} {a d : Addr} {o1 o2 o3 o4 : HO} (hn : H a = none) (hd : d ≠ a) : upd (L2.del (upd (upd (upd H a o1) d o2) a o3) a) d o4 = upd H d o4 := by
  funext b
  by_cases hb : b = d
  · subst hb; rw [upd_same, upd_same]
  · rw [upd_ne hb, upd_ne hb]
    by_cases ha : b = a
    · subst ha; rw [L2.del_same, hn]
    · rw [L2.del_ne ha, upd_ne ha, upd_ne hb, upd_ne ha]
theorem xd_eq2 {H : Hp} {a d : Addr} {o1 o2 o3 o4 o5 : HO} (hn : H a = none) (hd : d ≠ a) : upd (L2.del (upd (upd (upd (upd H a o1) d o2) a o3) d o5) a) d o4 = upd H d o4 := by
  funext b
  by_cases hb : b = d
  · subst hb; rw [upd_same, upd_same]
  · rw [upd_ne hb, upd_ne hb]
    by_cases ha : b = a
    · subst ha; rw [L2.del_same, hn]
    · rw [L2.del_ne ha, upd_ne hb, upd_ne ha, upd_ne hb, upd_ne ha]
theorem raise_end {B F0 F1 : Hp} {Γ1 : List Sl} {σ : L2.St} {H1 : Hp} {c : Nat} {ws : List (Str × V)} {ds : List D} {dx : Addr} {P : Fl → Hp → List Sl → L2.St → Hp → Prop} {fs : List Str} (hw : ws.map (·.1) = fs) (ia : IsAll T.X.K T.cm F1 (ws.map (·.2)) ds) (n : H1 dx = none)
    (r : RunS T B F0 (throw' (.exc c fs ds)) F1 Γ1 σ H1 P) : T.W (.ref (T.cm c)) (some dx) σ (upd H1 dx (.xd ws)) := by
  obtain ⟨S, r⟩ := r
  have t : Step F1 H1 (upd F1 dx (.xd ws)) (upd H1 dx (.xd ws)) := .new S.fh n
  exact r _ _ σ _ _ t.ff (S.step t) ⟨rfl, .inl ⟨dx, ws, rfl, upd_same, hw, ia.mono t.ff _⟩⟩
theorem rs_raise1 (c : Nat) (G : DefEx1 T.X.prog T.X.w T.X.K T.X.mg T.X.base T.cm x c f) (ck : Cok T (k + 2)) (ha : RA T [e] cs) (hg : Gl T.X x := by rfl) (hdb : (x == ("__debug__" : Str)) = false := by decide)
    (he : starEach [e] T.X.env = (false, eval e T.X.env) :: starEach [] T.X.env := by rfl) (hpl : (backTo pos (starEach [] T.X.env)).any (·.1) = false := by rfl) : RS T (.Raise (some (.Call (.Name x p) [e] [] pos)) none pos2) (sRaise c [f] cs) := fun B F0 => by
  obtain ⟨fI, fd, ps, hm, hC, iC, tI, hb, F⟩ := G.ex
  refine (ps_raise ck.calm ck.tk (pmk_oex (k := 1) (dvs := []) hC iC tI F (ck.room.mono (by omega)) hb .nil (fun _ _ _ _ _ _ _ h => h.elim) hg hm (ha B F0) hdb he hpl)).weak fun D σ H ⟨F1, Γ1, r⟩ => ⟨F1, Γ1, r.bnd.run.mono fun ds F2 Γ2 H2 q2 S2 r2 vs hvs => ?_⟩
  match ds, hvs, r2 with
  | [d], .cons (v := v) i .nil, r2 =>
    refine ⟨by simp, fun a na => ⟨a, v, rfl, upd_same, fun dx n ne => ⟨rfl, dx, _, upd_same, by rw [upd_ne ne, upd_same], by rw [upd_ne ne] at n; exact n, ?_⟩⟩⟩
    rw [xd_eq1 na ne]
    rw [upd_ne ne] at n
    exact raise_end rfl (.cons i .nil) n r2
  | [], hvs, r2 => exact r2.2.elim
  | d1 :: d2 :: dr, hvs, r2 =>
    have : excF c [f] (d1 :: d2 :: dr) = none := by simp [excF]
    simp only [this] at r2
    exact r2.2.elim
theorem rs_raise2 (c : Nat) {e2 : Expr} (G : DefEx2 T.X.prog T.X.w T.X.K T.X.mg T.X.base T.cm x c f g) (ck : Cok T (k + 2)) (ha : RA T [e, e2] cs) (hg : Gl T.X x := by rfl) (hdb : (x == ("__debug__" : Str)) = false := by decide)
    (he : starEach [e, e2] T.X.env = (false, eval e T.X.env) :: starEach [e2] T.X.env := by rfl) (hpl : (backTo pos (starEach [e2] T.X.env)).any (·.1) = false := by rfl) : RS T (.Raise (some (.Call (.Name x p) [e, e2] [] pos)) none pos2) (sRaise c [f, g] cs) := fun B F0 => by
  obtain ⟨fI, fd, ps, hm, hC, iC, tI, hb, F⟩ := G.ex
  refine (ps_raise ck.calm ck.tk (pmk_oex (k := 1) (dvs := []) hC iC tI F (ck.room.mono (by omega)) hb .nil (fun _ _ _ _ _ _ _ h => h.elim) hg hm (ha B F0) hdb he hpl)).weak fun D σ H ⟨F1, Γ1, r⟩ => ⟨F1, Γ1, r.bnd.run.mono fun ds F2 Γ2 H2 q2 S2 r2 vs hvs => ?_⟩
  match ds, hvs, r2 with
  | [d, d2], .cons (v := v) i (.cons (v := v2) i2 .nil), r2 =>
    refine ⟨by simp, fun a na => ⟨a, v, v2, rfl, upd_same, fun dx n ne => ⟨rfl, dx, _, by rw [upd_ne ne.symm, upd_same], upd_same, by rw [upd_ne ne] at n; exact n, ?_⟩⟩⟩
    rw [xd_eq2 na ne]
    rw [upd_ne ne] at n
    exact raise_end rfl (.cons i2 (.cons i .nil)) n r2
  | [], hvs, r2 => exact r2.2.elim
  | [d1], hvs, r2 =>
    have : excF c [f, g] [d1] = none := by simp [excF]
    simp only [this] at r2
    exact r2.2.elim
  | d1 :: d2 :: d3 :: dr, hvs, r2 =>
    have : excF c [f, g] (d1 :: d2 :: d3 :: dr) = none := by simp [excF]
    simp only [this] at r2
    exact r2.2.elim
end
end DL

/-! DL14: try .. except C as e: x = e; the exception stays in sight. -/
namespace DL
open PySem L2 PyProof.Rows

/-- an exception that was pinned is data from here on -/
theorem track {X : Cx} {pins : List (Addr × Obj)} {σ : L2.St} {H : Hp} {s : Shared} {a C : Addr} {oe : Obj} {vs : Array Value} {dx : Option Addr} (I : Inv X ((a, oe) :: pins) σ H s) (hz : Zc (.ref C) dx oe) (hd : oe.data = .fields vs)
    (n0 : X.s_0.heap.get? a = none) (np : ∀ p ∈ X.pn ++ pins, p.1 ≠ a) : Inv X pins σ (upd H a (ExcO a C dx)) s := by
  obtain ⟨ha, na, nL, nF, nc⟩ := I.pin (a, oe) (List.mem_append_right _ List.mem_cons_self)
  refine ⟨I.ok, I.os, I.bare, ⟨I.base.keep, I.base.slot, fun b o e n hx => ?_, I.base.there, fun b xs e => ?_, fun b o xs e => ?_, fun b ps e => ?_⟩, I.loc, I.cell, ?_, fun x c e => ?_, fun p hp => ?_, fun b o e => ?_, I.len⟩
  · rw [upd_ne (fun z => by subst z; rw [n0] at e; cases e)]; exact I.base.free b o e n hx
  · have q := I.base.tups b xs e
    rw [upd_ne (ne_of_none q na)]; exact q
  · have q := I.base.frzs b o xs e
    rw [upd_ne (ne_of_none q na)]; exact q
  · obtain ⟨m, q⟩ := I.base.tbls b ps e
    exact ⟨m, by rw [upd_ne (ne_of_none q na)]; exact q⟩
  · rw [upd_ne (Ne.symm nL)]; exact I.free
  · have hne : c ≠ a := fun z => by
      subst z
      obtain ⟨v, o, e1, e2⟩ := I.cell x c e
      rw [ha] at e1; cases e1
      first
        | exact nc _ e2
        | (obtain ⟨_, e2⟩ := e2; exact nc _ e2)
        | (obtain ⟨e2, _⟩ := e2; exact nc _ e2)
    rw [upd_ne hne]; exact I.freeC x c e
  · have hp' : p ∈ X.pn ++ ((a, oe) :: pins) := by
      rcases List.mem_append.mp hp with h | h
      · exact List.mem_append_left _ h
      · exact List.mem_append_right _ (List.mem_cons_of_mem _ h)
    obtain ⟨h1, h2, h3⟩ := I.pin p hp'
    exact ⟨h1, by rw [upd_ne (np p hp)]; exact h2, h3⟩
  · by_cases hb : b = a
    · subst hb
      rw [upd_same] at e; cases e
      exact ⟨⟨oe, vs, ha, hz.1, hz.2, hd⟩, ⟨oe, ha⟩, fun h1 h2 ⟨o, vs, k1, k2⟩ k => ⟨o, vs, k _ k1, k2⟩⟩
    · rw [upd_ne hb] at e
      exact (I.hok b o e).stay (fun c v _ q => q) (fun c q => by rw [upd_ne (ne_of_none q na)]; exact q) fun c xs q => by rw [upd_ne (ne_of_none q na)]; exact q

/-- what the clause wishes: behind the suite the exception is tracked -/
def wAsK (K : PySem.W.Frag) (c : Value) (i : Nat) (ts : Addr → Value → Option Addr → TS) (Wout : WX) (D : Ends) : WX := fun cls d σ H =>
  ∃ b C, cls = .ref C ∧ PySem.W.exmOne K cls c = some b ∧ (b = true → ∀ a, H a = none → ts a cls d { nx := fun σ' H' => D.nx (σ'.set i none) (upd H' a (ExcO a C d)), rt := fun _ _ => False } (σ.set i (some (.ref a))) H) ∧ (b = false → Wout cls d σ H)
section
variable {X : Cx} {x n : Str} {c : Value} {i : Nat} {body suite : List Stmt} {b₀ : Stmt} {np pos pos' : Pos} {tb : WX → TS} {ts : Addr → Value → Option Addr → TS} {Wout : WX}
theorem ps_try_keep (hs : X.stack = X.env :: X.outer) (hf : X.env.frame = some X.env.locals) (hex : X.ex = []) (hN : X.N.Nodup) (hi : X.N[i]? = some n) (hln : X.env.kindOf n = some .local) (hc : Names X x c) (tk : Takes X Wout)
    (hb : ∀ (W : WX) (pn : List (Addr × Obj)) (xe : Value → Shared → Prop), Takes (X.tr pn xe) W → PassesOwn (model X.prog X.w) X.A X.env xe → PSs (X.tr pn xe) body (tb W))
    (hsu : ∀ (a : Addr) (oe : Obj) (cls : Value) (d : Option Addr) (pn : List (Addr × Obj)), Zc cls d oe → (∃ vs, oe.data = .fields vs) → PSs (X.suite a ((a, oe) :: pn)) (b₀ :: suite) (ts a cls d)) :
    PS X (.Try body [.ExceptHandler (some (.Name x np)) (some n) (b₀ :: suite) pos'] [] [] pos) (fun D σ H => tb (wAsK X.K c i ts Wout D) D σ H) := by
  refine ⟨fun pins s σ H D I h => ?_⟩
  have ok := I.ok
  have hfr : X.A.frames = some (X.env :: X.outer) := by rw [ok.frames, hs]
  have hloc : Loc X.env.scope n := .inl hln
  refine wpAny_Try_except ?_
  refine wpAny_mono ((hb (wAsK X.K c i ts Wout D) (X.pn ++ pins) (fun e s₁ => wpAny (model X.prog X.w) X.A (noteFrame e X.env) (fun _ s₂ => wpAny (model X.prog X.w) X.A (setFlight e none) (fun _ s₃ =>
    wpAny (model X.prog X.w) X.A (handleBy e X.env [.ExceptHandler (some (.Name x np)) (some n) (b₀ :: suite) pos']) (SP X pins D) X.xe s₃) X.xe s₂) X.xe s₁) (fun u s' xx => ?_) PassesOwn.looking).run [] s σ H D (I.toTry _) h) (fun f s1 hsp => ?_) (fun e s1 he => he)
  · obtain ⟨a, B, sI, pins', σ', H', cls, d, rfl, J', nb, up, sky, na, os, ag, b, C, hcls, hb1, hyes, hno⟩ := xx
    have J : Inv X pins σ' H' sI := J'.ofTry ok
    have sky' : Sky B (X.env :: X.outer) a (Zc cls d) X.env.locals s'.heap := by rw [← hs]; exact sky
    have nB : B.get? a = none := by
      rcases sky' with ⟨_, hn, _⟩ | fl | hh
      · exact hn
      · exact fl.2.1
      · exact hh.2.1
    show wpAny (model X.prog X.w) X.A (noteFrame (.ref a) X.env) _ _ _
    refine Sky.land Zc.steady hfr hf sky' fun h3 fl3 up3 => ?_
    have J3 : Inv X pins σ' H' { s' with heap := h3 } := J.landed nb fl3.1 (up.trans up3) os ag
    obtain ⟨oe3, vs3, he3, hz3, hd3⟩ := fl3.there
    have notFr : ∀ {h : Heap} {o : Obj} {vs : Array Value}, h.FunFrames B (X.env :: X.outer) → h.get? a = some o → o.data = .fields vs → a ∉ frs (X.env :: X.outer) := fun {h o vs} ff e dd hm => by
      obtain ⟨_, o', e', hnf⟩ := ff.mem hm
      rw [e] at e'; cases e'
      exact hnf _ dd
    have nfr := notFr fl3.2.2.1 he3 hd3
    have nL : a ≠ X.env.locals := fun z => nfr (List.mem_filterMap.mpr ⟨X.env, List.mem_cons_self, by rw [hf, z]⟩)
    have nF : a ∉ X.fs := fun hm => by
      obtain ⟨e, he, q⟩ := List.mem_filterMap.mp hm
      exact nfr (List.mem_filterMap.mpr ⟨e, List.mem_cons_of_mem _ he, q⟩)
    have nsI : sI.heap.get? a = none := by
      cases z : sI.heap.get? a with
      | none => rfl
      | some o =>
        have := nb a o z (by rw [hs]; exact nfr)
        rw [nB] at this; cases this
    have n0 : X.s_0.heap.get? a = none := by
      cases z : X.s_0.heap.get? a with
      | none => rfl
      | some o =>
        obtain ⟨o', e'⟩ := J.base.there a o z (by rw [hex]; simp)
        rw [nsI] at e'; cases e'
    have npn : ∀ p ∈ X.pn ++ pins, p.1 ≠ a := fun p hp z => by
      have := (J.pin p hp).1
      rw [z, nsI] at this; cases this
    have S3 := J3.suite he3 hd3 na nL nF
    refine wpAny_handleBy_cons (codeAny_handlers_test ?_) (by intro q; cases q)
    have LT : PySem.W.Looks (model X.prog X.w) h3 (typeOf (.ref a)) cls := fun A Q E s k q => wpAny_typeOf_ref (k _ _ he3) (by rw [hz3.1]; exact q)
    have LM := PySem.W.exm_one (M := model X.prog X.w) (J3.kIn) LT hb1
    have test : ∀ {Q : Value → Shared → Prop} {E : Value → Shared → Prop}, Q c { s' with heap := h3 } → wpAny (model X.prog X.w) (X.A.mark (some (.ref a))) (eval (.Name x np) X.env) Q E { s' with heap := h3 } := fun {Q E} q => by
      obtain ⟨hg, hdbg, hm | ⟨hm, hv, hnn⟩⟩ := hc
      · exact ld_glob (X := X.suite a ((a, oe3) :: (X.pn ++ pins))) S3 hg hm q hdbg
      · exact ld_blt (X := X.suite a ((a, oe3) :: (X.pn ++ pins))) S3 hg hm hv q hnn hdbg
    refine test (LM.here ?_)
    cases b with
    | true =>
      refine codeAny_handlers_suite_as ?_
      refine HandSPX.lands_againZ fl3 fun h4 fl4 up4 => ?_
      have J4 : Inv X pins σ' H' { s' with heap := h4 } := J.landed nb fl4.1 ((up.trans up3).trans up4) os ag
      obtain ⟨oe4, vs4, he4, hz4, hd4⟩ := fl4.there
      have S4 := J4.suite he4 hd4 na nL nF
      refine store_ok (X := X.suite a ((a, oe4) :: (X.pn ++ pins))) (v := .ref a) S4 hN hi hloc rfl (fun s5 S5 => ?_) (.inr hln)
      refine wpAny_mono ((hsu a oe4 cls d (X.pn ++ pins) hz4 ⟨_, hd4⟩).run [] s5 _ H' _ S5 (hyes rfl a na)) (fun f s6 hsp => ?_) (fun _ _ z => False.elim z)
      cases f with
      | next =>
        obtain ⟨σ6, H6, S6, q6⟩ := hsp
        have J6 : Inv X ((a, oe4) :: pins) σ6 H6 s6 := ⟨ok, S6.os, S6.bare, S6.base, S6.loc, S6.cell, S6.free, S6.freeC, fun p hp => S6.pin p (by
          rw [List.append_nil]
          rcases List.mem_append.mp hp with h | h
          · exact List.mem_cons_of_mem _ (List.mem_append_left _ h)
          · rcases List.mem_cons.mp h with rfl | h
            · exact List.mem_cons_self
            · exact List.mem_cons_of_mem _ (List.mem_append_right _ h)), S6.hok, S6.len⟩
        refine gone_ok J6 hN hi hln fun s7 J7 => ⟨_, _, track J7 (by rw [← hcls]; exact hz4) hd4 n0 npn, q6⟩
      | brk =>
        obtain ⟨σ6, H6, S6, q6⟩ := hsp
        exact q6.elim
      | cont =>
        obtain ⟨σ6, H6, S6, q6⟩ := hsp
        exact q6.elim
      | ret u =>
        obtain ⟨v6, σ6, H6, S6, r6, q6⟩ := hsp
        exact q6.elim
    | false =>
      show wpAny _ X.A (handleBy (.ref a) X.env []) _ _ _
      refine wpAny_handleBy_nil ?_
      obtain ⟨k1, k2, k3, oe, vs, T, oT, ts', he, hz, hd, h1, hr⟩ := id fl3
      unfold PySem.passOn
      refine wpAny_bind (wpAny_field he hd h1 ?_)
      rw [if_neg (show ¬ ((Value.ref T == Value.none) = true) from by simp)]
      have fin : wpAny (model X.prog X.w) X.A (setFlight (.ref a) X.env.frame) (fun _ s4 => wpAny (model X.prog X.w) X.A (throw (.ref a) : Sem Flow) (SP X pins D) X.xe s4) X.xe { s' with heap := h3 } := by
        rw [hf]
        refine HandSPX.setFlight_upZ fl3 fun h4 hh4 up4 => wpAny_throw (tk _ _ ?_)
        exact ⟨a, B, sI, pins, σ', H', cls, d, rfl, J, nb, (up.trans up3).trans up4, .inr (.inr (by rw [hs]; exact hh4)), na, os, ag, hno rfl⟩
      first
        | exact wpAny_bind (wpAny_pure (wpAny_bind fin))
        | exact wpAny_bind fin
  · cases f with
    | next => obtain ⟨σ', H', J', q⟩ := hsp; exact wpAny_execs_nil ⟨σ', H', J'.ofTry ok, q⟩
    | brk => obtain ⟨σ', H', J', q⟩ := hsp; exact ⟨σ', H', J'.ofTry ok, q⟩
    | cont => obtain ⟨σ', H', J', q⟩ := hsp; exact ⟨σ', H', J'.ofTry ok, q⟩
    | ret u => obtain ⟨v, σ', H', J', r, q⟩ := hsp; exact ⟨v, σ', H', J'.ofTry ok, r, q⟩
end

/-! ### the rule -/
/-- the context of a try's body -/
abbrev Tx.tr (T : Tx) (W : WX) (pn : List (Addr × Obj)) (xe : Value → Shared → Prop) : Tx := { X := T.X.tr pn xe, cm := T.cm, W := W, io := T.io }
/-- which classes of exceptions the clause takes -/
abbrev Mt := Nat → Option Bool
def sTryK (M0 : Mt) (i j : Nat) (b : M Fl) : M Fl := fun Γ => match b Γ with
  | some (.error (.exc c fs vs), Γ') => match M0 c with
    | some true => if i < Γ'.length then some (.ok .nx, (Γ'.set j (.dat (.exc c fs vs))).set i .un) else none
    | some false => some (.error (.exc c fs vs), Γ')
    | none => none
  | r => r
section
variable {T : Tx} {x n y : Str} {body : List Stmt} {np pos pos' p1 p2 p3 : Pos} {cb : M Fl} {k : Nat}
theorem rs_tryK (i j : Nat) (c0 : Value) (M0 : Mt) (ck : Cok T k) (hM : ∀ c b, M0 c = some b → PySem.W.exmOne T.X.K (.ref (T.cm c)) c0 = some b) (hc : Names T.X x c0) (hb : ∀ (W : WX) (pn : List (Addr × Obj)) (xe : Value → Shared → Prop), Cok (T.tr W pn xe) k → RSs (T.tr W pn xe) body cb)
    (hs : T.X.stack = T.X.env :: T.X.outer := by rfl) (hf : T.X.env.frame = some T.X.env.locals := by rfl) (hex : T.X.ex = [] := by rfl) (hi : T.X.N[i]? = some n := by rfl) (hj : T.X.N[j]? = some y := by rfl) (hln : T.X.env.kindOf n = some .local := by rfl) (hly : Loc T.X.env.scope y := by first | exact Or.inl rfl | exact Or.inr rfl)
    (hij : i ≠ j := by decide) (hio : NoIo T i := by first | exact Or.inl rfl | exact Or.inr (by decide)) (hjo : NoIo T j := by first | exact Or.inl rfl | exact Or.inr (by decide)) (hd : (n == ("__debug__" : Str)) = false := by decide) (hcd : (n == ("__classdict__" : Str)) = false := by decide)
    (hsw : swapsWith (.Name n p2) (some (.Name y p1)) p3.line T.X.env = pure false := by rfl) (hfy : T.X.fn y = true ∨ T.X.env.scope.names.lookup y = some .local := by first | exact .inl rfl | exact .inr rfl | assumption) :
    RS T (.Try body [.ExceptHandler (some (.Name x np)) (some n) [.Assign [.Name y p1] (.Name n p2) p3] pos'] [] [] pos) (sTryK M0 i j cb) := fun B F0 => by
  have main := ps_try_keep (X := T.X) (tb := fun W => fun D σ H => ∃ pn xe, tSt (T.tr W pn xe) B F0 cb D σ H) (ts := fun _ _ _ => tAsg (tVar i) (gName j)) (np := np) (pos := pos) (pos' := pos') hs hf hex ck.nd hi hln hc ck.tk
    (fun W pn xe tk hp => ⟨fun pins s σ H D I ⟨_, _, q⟩ => (hb W pn xe ⟨ck.room, ck.grd, ck.calm, ck.nd, tk, hp⟩ B F0).run pins s σ H D I q⟩)
    (fun a oe cls d pn hz hv => pss_one (ps_set ck.nd hj hly (pe_var hi (Or.inl hln) hd hcd) hsw hfy))
  refine main.weak fun D σ H ⟨F, Γ, S, r⟩ => ⟨[], fun _ _ => False, F, Γ, S, ?_⟩
  unfold sTryK at r
  rcases e : cb Γ with _ | ⟨x0 | f, Γ'⟩
  · simp only [e] at r
  · simp only [e] at r
    intro F' H' σ' cls dx q S' ie
    cases x0 with
    | exc c fs vs =>
      simp only at r
      obtain ⟨rfl, hx⟩ := ie
      rcases eM : M0 c with _ | b
      · simp only [eM] at r
      · refine ⟨b, T.cm c, rfl, hM c b eM, fun hb a na => ?_, fun hb => ?_⟩
        · subst hb
          simp only [eM] at r
          by_cases hlen : i < Γ'.length
          · rw [if_pos hlen] at r
            have hlen' : i < σ'.length := by rw [← S'.len]; exact hlen
            refine ⟨.ref a, List.getElem?_set_self hlen', ?_⟩
            have S1 : T.Sat B F0 (upd F' a (ExcO a (T.cm c) dx)) Γ' σ' (upd H' a (ExcO a (T.cm c) dx)) := S'.step (.new S'.fh na)
            have q1 : Same F' (upd F' a (ExcO a (T.cm c) dx)) := .up (S'.fh.free na)
            have ia : T.Is (upd F' a (ExcO a (T.cm c) dx)) (.ref a) (.exc c fs vs) := by
              rcases hx with ⟨d, ws, rfl, h1, h2, h3⟩ | ⟨rfl, rfl, rfl⟩
              · exact .exc upd_same (q1 _ _ h1) h2 (h3.mono q1 _)
              · exact .exc0 upd_same
            have S2 := ((S1.set hio ia).set hjo ia).wipe1 hio
            have eΓ : (((Γ'.set i (.dat (.exc c fs vs))).set j (.dat (.exc c fs vs))).set i .un) = (Γ'.set j (.dat (.exc c fs vs))).set i .un := by
              rw [List.set_comm _ _ hij, List.set_set]
            rw [eΓ] at S2
            exact r _ _ _ (q.trans q1) S2
          · rw [if_neg hlen] at r; exact r.elim
        · subst hb
          simp only [eM] at r
          exact r F' H' σ' _ dx q S' ⟨rfl, hx⟩
    | _ => exact ie.elim
  · simp only [e] at r
    exact r
end

/-! ### e.f, e a kept exception -/
def excFld (c : Nat) (f : Str) : D → Option Rf
  | .exc c' fs vs => if c' = c then (lookD fs vs f).map .dat else none
  | _ => none
end DL

/-! DL15: the ending: a law's def as a function of data answers True. -/
namespace DL
open PySem PySem.Spec L2 PyProof.Rows

theorem ints_is {K : PySem.W.Frag} {cm : Nat → Addr} {F : Hp} : ∀ ns : List Int, IsAll K cm F (ns.map V.int) (ns.map D.int)
  | [] => .nil
  | n :: ns => .cons (.int n) (ints_is ns)
/-- a heap that tracks the script alone, or nothing -/
structure Lone (K : PySem.W.Frag) (H : Hp) (a : Addr) (xs : List V) (h : Heap) : Prop where
  sq : SqL K H a xs
  at_ : ∀ b, H b ≠ none → b = a ∧ ∃ o, H b = some (.frz o (.lst xs)) ∧ K.lookup b = none
theorem lone_of {P : Program} {w : World} {K : PySem.W.Frag} {h : Heap} {a : Addr} {vs : List Value} {ns : List Int} (KX : K.In h) (ha : h.get? a = some { cls := .type "list", data := .seq vs.toArray }) (hi : IntsAre vs ns) (hl : ns.length ≤ sizeLine) :
    ∃ H : Hp, Lone K H a (ns.map V.int) h ∧ HOk P w H h := by
  have rv := vals_ints hi
  cases hk : K.lookup a with
  | some o =>
    have e := KX a o hk
    rw [ha] at e; cases e
    exact ⟨fun _ => none, ⟨.inr ⟨_, vs.toArray, _, hk, rfl, rfl, rfl, by rw [List.size_toArray, hi.length]; exact hl, by simpa using rv⟩, fun b z => absurd rfl z⟩, fun b u (z : (none : Option HO) = some u) => by cases z⟩
  | none =>
    let o : Obj := { cls := .type "list", data := .seq vs.toArray }
    refine ⟨upd (fun _ => none) a (.frz o (.lst (ns.map V.int))), ⟨.inl (.inr ⟨o, upd_same⟩), fun b z => ?_⟩, fun b u z => ?_⟩
    · by_cases hb : b = a
      · subst hb; exact ⟨rfl, o, upd_same, hk⟩
      · exact absurd (upd_ne hb) z
    · by_cases hb : b = a
      · subst hb; rw [upd_same] at z; cases z
        exact ⟨ha, by rw [List.length_map]; exact hl, vs, _, rv, ha⟩
      · rw [upd_ne hb] at z; cases z
theorem end_call {P : Program} {w : World} {K : PySem.W.Frag} {mg mb : Str → Option Value} {k : Nat} {fa a : Addr} {fd : FuncData} {x : Str} {sp : Sp} {s₁ : Shared} {vs : List Value} {ns : List Int}
    (KX : K.In s₁.heap) (hns : s₁.heap.Ns mainGlobals mg) (hb : s₁.heap.Ns builtinsNs mb) (hbb : ∀ x : Str, x ≠ "__name__" → mb x = bootBuiltins x) (hlim : s₁.heap.NoLimit) (hg : s₁.gens = #[])
    (ha : s₁.heap.get? a = some { cls := .type "list", data := .seq vs.toArray }) (hi : IntsAre vs ns) (hl : ns.length ≤ sizeLine) (hr : Room k callerA)
    (F : ∀ base : Heap, K.In base → base.Ns mainGlobals mg → FnG P w K mg base k fa fd [x] sp) (hbind : ∀ (s : Shared) (u : Value), BindsTo s fd ⟨[u], []⟩ [(x, u)])
    (hsp : ∀ H : Hp, SqL K H a (ns.map V.int) → sp [.ref a] H (fun v _ => v = .bl true) fun _ _ _ => False) :
    codeAny (model P w) callerA (.call (.ref fa) ⟨[.ref a], []⟩) (fun r s' => r = .ok (.ret (.bool true)) ∧ OldK s₁.heap s'.heap ∧ s'.os = s₁.os ∧ AllBare s'.gens) s₁ := by
  obtain ⟨H, hL, hok⟩ := lone_of (P := P) (w := w) KX ha hi hl
  have seen : ∀ {b : Addr} {o : Obj}, s₁.heap.get? b = some o → H b = none → (hidT s₁.heap H).get? b = some o := fun e n => hidT_get e n
  have notA : ∀ {b : Addr} {o : Obj}, s₁.heap.get? b = some o → (∃ es ep, o.data = .dict es ep) → H b = none := fun {b o} e ⟨es, ep, d⟩ => by
    by_cases q : H b = none
    · exact q
    · obtain ⟨rfl, _⟩ := hL.at_ b q
      rw [ha] at e; cases e
      have d' : Data.seq vs.toArray _ = Data.dict es ep := d
      cases d'
  have nsK : ∀ {b : Addr} {m : Str → Option Value}, s₁.heap.Ns b m → (hidT s₁.heap H).Ns b m := fun {b m} ⟨o, es, ep, e, d, r⟩ => ⟨o, es, ep, seen e (notA e ⟨es, ep, d⟩), d, r⟩
  have hKb : K.In (hidT s₁.heap H) := fun b o e => seen (KX b o e) (by
    by_cases q : H b = none
    · exact q
    · obtain ⟨_, _, _, z⟩ := hL.at_ b q
      rw [z] at e; cases e)
  have hM : Mod K mg (hidT s₁.heap H) := ⟨hKb, nsK hns, ⟨mb, nsK hb, hbb⟩, let ⟨mc, h1, h2⟩ := hlim; ⟨mc, nsK h1, h2⟩⟩
  have e0 : Env0 P w K mg (hidT s₁.heap H) callerA [] s₁ H := ⟨rfl, hM, fun b o e => of_hidT e, Nat.le_of_eq (hidT_size _ _), trivial, fun b hb => absurd (show b ∈ ([] : List Addr) from hb) (by simp), hok, .of_eq hg⟩
  refine codeAny_mono ((F _ hKb (nsK hns)).run callerA [] s₁ H ⟨[.ref a], []⟩ [.ref a] [.ref a] _ _ hr rfl e0 (hbind s₁ (.ref a)) (.cons rfl .nil) (hsp H hL.sq)) fun r s' h => ?_
  cases r with
  | error e =>
    obtain ⟨_, _, _, _, _, _, _, _, _, _, _, _, z⟩ := h
    exact z.elim
  | ok fl =>
    cases fl with
    | next => exact False.elim h
    | brk => exact False.elim h
    | cont => exact False.elim h
    | ret u =>
      obtain ⟨v, H', os, bare, un, hok', r', q⟩ := h
      obtain rfl : v = .bl true := q
      obtain rfl : u = Value.bool true := r'
      refine ⟨rfl, OldK.of_keep fun b o e => ?_, os, bare⟩
      by_cases q : H b = none
      · exact un.keep b o e q (by intro z; exact absurd (show b ∈ ([] : List Addr) from z) (by simp)) (by simp)
      · obtain ⟨_, ob, z, _⟩ := hL.at_ b q
        have z2 := un.frzs b ob _ z
        obtain ⟨e1, _⟩ := hok b _ z
        obtain ⟨e2, _⟩ := hok' b _ z2
        rw [e] at e1; cases e1
        exact e2
/-- the goal that k_head leaves -/
theorem walk_D {l : PySem.W.OpenLaw} {n k : Nat} {q : Program} {loose : List Str} {XP : (Str → Option Value) → Heap → Prop} {YP : World → Heap → Prop} {d : DefRec} {K : Params → PySem.W.Frag} {x : Str} {φ : Fn}
    (hn : l.most = some n) (hn2 : n ≤ sizeLine) (hdf : d.params.defaults = []) (hr : Room k callerA)
    (hY : ∀ (w : World) (h : Heap), YP w h → (K w.params).In h)
    (F : ∀ (w : World) (mg : Str → Option Value) (fa : Addr) (h : Heap), (K w.params).In h → h.Ns mainGlobals mg → mg d.name = some (.ref fa) →
      ∃ (fd : FuncData) (cm : Nat → Addr), (∀ (s : Shared) (u : Value), BindsTo s fd ⟨[u], []⟩ [(x, u)]) ∧
        ∀ base : Heap, (K w.params).In base → base.Ns mainGlobals mg → FnG l.prog w (K w.params) mg base k fa fd [x] (spD (K w.params) cm 1 φ))
    (hφ : ∀ ns : List Int, ns.length ≤ n → φ [.lst (ns.map .int)] = some (.ok (.dat (.bl true)))) :
    PySem.W.WalkO q loose XP YP l.row.toRowW d [] (fun f vs => PySem.call f vs) := by
  refine Att.attach_call hn hdf fun w s₀ s₁ mg mb fa o pm cd doc a vs ns G Y ho hd hcd hmg hobj hints hlen hg => ?_
  have KX := hY w _ Y
  obtain ⟨fd, cm, hb, hF⟩ := F w mg fa _ KX G.T.g hmg
  refine end_call KX G.T.g G.T.b G.T.builtins G.T.nolimit hg hobj hints (Nat.le_trans hlen hn2) hr hF hb fun H hS => ?_
  refine ⟨H, [.lst (ns.map .int)], _, rfl, .refl _, .cons (.klst hS (ints_is ns)) .nil, hφ ns hlen, fun v F' H' _ i => ?_⟩
  exact IsT.bl (H := H') (.inl i)
end DL

/-! DL16: x[i] = e, pop, {}, the field of a kept exception. -/
namespace DL
open PySem L2 PyProof.Rows

/-! ### x[i] = e -/
def setM : Fm := fun d ds => match d, ds with
  | .lst xs, [.int i, y] => match ixN xs.length i with
    | some k => some (.ok (.dat .non), .lst (xs.set k y))
    | none => none
  | _, _ => none
def gIx (a b : M Rf) : D → M Unit := fun d => bnd a fun r => bnd (cap b) fun k => bnd (lendA setM r [k, d]) fun _ => ret ()
section
variable {T : Tx} {o i e : Expr} {co ci ce : M Rf} {pos apos cpos : Pos} {f : Str}
theorem rg_ix (ho : RE T o co) (hi : RE T i ci) (ha : ∀ v, assign (.Subscript o i pos) T.X.env v = (do
      let ov ← holding [v] (eval o T.X.env)
      let iv ← holding [v, ov] (eval i T.X.env)
      standAt pos
      holding [v, ov, iv] (setItem ov iv v)
      release [v, ov, iv] []) := by intro _; rfl) : RG T (.Subscript o i pos) (gIx co ci) := fun B F0 =>
  (pg_sub (ho B F0) (rd_of hi B F0) set_list ha).weak fun v σ H Q ⟨F, Γ, d, iv, r⟩ => ⟨F, Γ, r.bnd.run.mono fun r0 F1 Γ1 H1 q1 S1 r1 u hu => ⟨F1, Γ1, r1.bnd.run.mono fun k F2 Γ2 H2 q2 S2 r2 z hz => by
    cases r0 with
    | dat d => exact r2.bnd.2.elim
    | own d => exact r2.bnd.2.elim
    | slot j =>
    have hu2 : IsRf T.X.K T.cm B F2 Γ2 σ H2 u (.slot j) := ⟨hu.1, by
      have r3 := r2.bnd
      obtain ⟨_, r3⟩ := r3
      unfold lendA lendX at r3
      simp only at r3
      rcases q : Γ2[j]? with _ | sl
      · simp only [q] at r3
      · cases sl with
        | un => simp only [q] at r3
        | dat d => simp only [q] at r3
        | own d => exact ⟨d, rfl⟩⟩
    obtain ⟨a, ho, d0, r1, d1, i, rfl, h2, h4, h5, hφ, kk⟩ := r2.bnd.lendA hu2
    cases d0 with
    | lst xs =>
      cases k with
      | int n =>
        simp only [setM] at hφ
        split at hφ
        · rename_i m hm
          simp only [Option.some.injEq, Prod.mk.injEq] at hφ
          obtain ⟨rfl, rfl⟩ := hφ
          cases h5 with
          | lst hs =>
            obtain rfl : z = .int n := IsT.int (H := H2) (.inl hz)
            refine ⟨a, _, n, m, rfl, rfl, h4, by rw [hs.length]; exact hm, ?_⟩
            exact (kk _ rfl _ _ (step_upd S2.fh h2) upd_same (.lst (hs.set m ((iv.mono q1 _).mono q2 _)))).ret.2
        · cases hφ
      | _ => cases hφ
    | _ => cases hφ⟩⟩

/-! ### pop -/
def pop0M : Fm := fun d ds => if ds = [] then popM d [] else none
def popAtM : Fm := fun d ds => match ds with
    | [.int i] => popM d [.int i]
    | _ => none
theorem re_pop (ho : RE T o co) (hbase : attributeBase o "pop" T.X.env (eval o T.X.env) = eval o T.X.env := by rfl) (hline : (apos.endLine == cpos.line) = true := by rfl) :
    RE T (.Call (.Attribute o "pop" apos) [] [] cpos) (sMut isLst pop0M co sNil) := re_mut0 mt_pop mut_pop PySem.F.slot_list_pop PySem.F.type_list_pop ho hbase hline
theorem re_popAt {cs : M (List D)} (ho : RE T o co) (ha : RA T [e] cs)
    (hbase : attributeBase o "pop" T.X.env (eval o T.X.env) = eval o T.X.env := by rfl)
    (hfew : ((backTo cpos (starEach [e] T.X.env)).all (fun x => !x.1) && (backToKw cpos (keywordEach [] T.X.env)).all (fun x => x.1.isSome)
      && decide ([e].length + ([] : List Keyword).length + (if ([] : List Keyword).isEmpty then 0 else 1) < 30)) = true := by rfl)
    (hline : (apos.endLine == cpos.line) = true := by rfl) (hs : starEach [e] T.X.env = (false, eval e T.X.env) :: starEach [] T.X.env := by rfl) (hplain : (backTo cpos (starEach [] T.X.env)).any (·.1) = false := by rfl) :
    RE T (.Call (.Attribute o "pop" apos) [e] [] cpos) (sMut isLst popAtM co cs) := re_mut mt_popAt mut_popAt PySem.F.slot_list_pop PySem.F.type_list_pop ho ha hbase hfew hline hs hplain

/-! ### {} -/
def sDic0 : M Rf := ret (.own (.dic [] []))
theorem re_dic0 : RE T (.Dict [] [] pos) sDic0 := fun B F0 => pe_dnewK.weak fun σ H Q ⟨F, Γ, r⟩ p n => by
  obtain ⟨S, h⟩ := r.ret
  have t : Step F H F (upd H p (.dK [])) := .newOwn S.fh n
  have S' := S.step t
  refine r.2 F _ (.refl _) S' _ ⟨p, _, rfl, S.fh.free n, S.bh.free n, upd_same, .dK rfl .nil, fun i e' hg hs => ?_⟩
  obtain ⟨a', ho', g1, _, _, g4, _⟩ := S.ow i e' hg
  rw [g1] at hs; injection hs with hs; injection hs with hs; injection hs with hs; subst hs
  rw [n] at g4; cases g4

/-! ### e.f, e a kept exception -/
theorem re_xfld (c : Nat) (hx : XfC T.X.K (T.cm c)) (hn : PySem.W.findIn T.X.K (.ref (T.cm c)) f = some none) (ho : RE T o co) (hb : attributeBase o f T.X.env (eval o T.X.env) = eval o T.X.env := by rfl) : RE T (.Attribute o f pos) (sOne (excFld c f) co) := fun B F0 =>
  ⟨fun pins s σ H Q I ⟨F, Γ, r⟩ => by
    refine attr_of hb (thn ((re_opnd ho B F0).run pins s σ H (fun x H1 => ∃ d F1, Same F1 H1 ∧ IsT T.X.K T.cm F1 H1 x d ∧ Res T F1 H1 Q (excFld c f d)) I ⟨F, Γ, r.bnd.mono fun y F1 Γ1 H1 q1 S1 r1 v hv => let ⟨d, fh, i, h⟩ := r1.app1 hv (.refl _); ⟨d, F1, fh, i, h⟩⟩) fun u s1 ⟨x, H1, I1, rx, d, F1, fh, i, h⟩ => ?_)
    cases d with
    | exc c' fs vs =>
      simp only [excFld] at h
      split at h
      · rename_i hcc
        subst hcc
        rcases el : lookD fs vs f with _ | d
        · rw [el] at h; exact h.elim
        rw [el] at h
        obtain ⟨a, dx, rfl, ha, hd⟩ := i.exc fh
        obtain rfl : u = Value.ref a := rx
        rcases hd with ⟨dd, ws, rfl, h1, h2, h3⟩ | ⟨rfl, rfl, rfl⟩
        · obtain ⟨v, l, iv⟩ := look_ws h2 h3 el
          obtain ⟨o, vs', e1, e2, e3, e4⟩ := (I1.hok a _ ha).1
          have hx2 : ObjOk T.X.prog T.X.w H1 s1.heap dd (.xd ws) := I1.hok dd _ h1
          obtain ⟨mA, hns, hr⟩ := hx2
          obtain ⟨od, hod, hl⟩ := lookIn_ns hns
          obtain ⟨u, hu, ru⟩ := RelO.some_of (v := v) (o := mA f) (by rw [← l]; exact hr f)
          have J : PySem.W.InstAt s1.heap a o (T.cm c') (some od) := ⟨e1, e2, by unfold PySem.W.notCls; rw [e4] <;> rfl, by rw [e3]; exact hod⟩
          exact HandSPX.exc_get I1.kIn J hx.ga hx.gg hx.exC (PySem.W.findObj_own hx.hdC hn rfl (by rw [hl, hu])) (handed_of ru) ⟨v, H1, I1.tok _, ru, h.val fh iv⟩
        · cases el
      · exact h.elim
    | _ => exact h.elim⟩
end
end DL

/-! DL18: == and != by an own __eq__. -/
namespace DL
open PySem PySem.Spec PyProof.Rows L2

section
open PySem.W
variable {prog : Program} {w : World} {A : Around} {E : Value → Shared → Prop} {s : Shared} {K : PySem.W.Frag} {x C L f : Addr} {h₀ : Heap} {m : Str → Option Value} {ox : Obj} {od : Option Obj} {b tb : Value}
theorem ifBound_ne {M : Model} {args : List Value} {Q : Option Value → Shared → Prop} (X : K.In s.heap) (I : PySem.W.InstAt s.heap x ox C od) (hs : PySem.W.findIn K (.ref C) "__ne__" = some (some (.builtin "object.__ne__")))
    (h : wpAny M A (call (.builtin "object.__ne__") (.ref x :: args)) (fun v => Q (some v)) E s) : wpAny M A (callSpecialIfBound? (.ref x) "__ne__" args) Q E s := by
  simp only [callSpecialIfBound?, bindSpecialIfBound?]
  refine wpAny_holding (wpAny_bind (wpAny_bind (wpAny_bind (I.type.here ((PySem.W.looks_findIn X hs).here ?_)))))
  refine wpAny_bind (wpAny_askSetting (wpAny_ite ?_))
  have fin : wpAny M A (call (.builtin "object.__ne__") ([.ref x] ++ args) >>= fun v => pure (some v)) Q E s := wpAny_bind (wpAny_mono h (fun v s' h' => wpAny_pure h') fun _ _ h' => h')
  split
  · exact wpAny_bind (wpAny_of_eq (F.cmp_object.ne.bind _) (wpAny_pure (by exact fin)))
  · exact wpAny_tryCatch (wpAny_bind (wpAny_of_eq (F.cmp_object.ne.bind _) (wpAny_pure (by exact fin))))
theorem entry_neK {Q : Fin → Shared → Prop} (X : K.In s.heap) (I : PySem.W.InstAt s.heap x ox C od) (hu : A.units < cLine) (hs : findIn K (.ref C) "__eq__" = some (some (.ref f))) (hf : isFn K (.ref f) = true)
    (h : wpAny (model prog w) A (call (.ref f) [.ref x, b]) (fun v s' => ∃ k, v = .bool k ∧ Q (.done (.ret (.bool (!k)))) s') E s) : wpAny (model prog w) A (Builtin.«object.__ne__» ⟨[.ref x, b], []⟩) Q E s := by
  unfold Builtin.«object.__ne__»
  repeat (first
    | with_reducible refine wpAny_cRoomFor hu ?_
    | (refine wpAny_bind (m := callSpecialIfBound? (.ref x) (Str.ofString "__eq__") [b])
        (ifBound_K X I hs hf (wpAny_mono h (fun r s' hr => by
          obtain ⟨k, rfl, hq⟩ := hr
          repeat (first | exact hq | exact wpAny_pure hq | exact wpAny_truthy_bool hq | (refine wpAny_bind (m := truthy (.bool _)) (wpAny_truthy_bool ?_)) | wp_step)) fun _ _ e => e)))
    | wp_step)
theorem neq_K {Q : Value → Shared → Prop} (hu : A.units + 1 < cLine) (hF : Fr h₀ L s.heap m) (X₀ : K.In h₀) (I : PySem.W.InstAt s.heap x ox C od) (hb : Looks (model prog w) s.heap (typeOf b) tb) (hn : notFirst K C tb = true)
    (hs : findIn K (.ref C) "__eq__" = some (some (.ref f))) (hne : findIn K (.ref C) "__ne__" = some (some (.builtin "object.__ne__"))) (hm : mroIn K C (.type "object") = some true) (hf : isFn K (.ref f) = true)
    (h : wpAny (model prog w) A.in1 (call (.ref f) [.ref x, b]) (fun v s' => ∃ k, v = .bool k ∧ Q (.bool (!k)) s') E s) : wpAny (model prog w) A (richCompare .NotEq (.ref x) b) Q E s := by
  have X := X₀.keeps hF.keep
  have one : wpAny (model prog w) A (tryCompare (.ref x) "__ne__" b) (fun r s' => ∃ v, r = some v ∧ Q v s') E s := by
    unfold tryCompare
    refine wpAny_bind (ifBound_ne X I hne (wpAny_call (codeAny_call_builtin F.cmp_object.ne.plain F.cmpEntry_ne (PySem.W.check_slot F.cmpKind_ne F.cmpSplit_ne (I.type.andThen (PySem.W.looks_mroIn X hm)) (F.cmpArgs_ne _ _)
      (entry_neK X I (by show A.units + 1 < cLine; exact hu) hs hf (wpAny_mono h (fun v s' hv => ?_) fun _ _ e => e))))))
    obtain ⟨k, rfl, hq⟩ := hv
    exact ⟨k, rfl, wpAny_pure ⟨_, rfl, hq⟩⟩
  unfold richCompare
  simp only [oneThing_ref]
  refine wpAny_holding (wpAny_bind (wpAny_cRoomFor (by omega) ?_))
  refine wpAny_bind (I.type.here (wpAny_bind (hb.here ?_)))
  split
  · rename_i q
    have e : subIn K tb (.ref C) = some false := by
      rcases Bool.or_eq_true_iff.mp hn with e | e
      · rw [beq_iff_eq.mp e] at q; simp at q
      · exact beq_iff_eq.mp e
    refine wpAny_bind ((looks_subIn X e).here ?_)
    simp only [Bool.false_eq_true, if_false]
    refine wpAny_bind (wpAny_mono one (fun r s' z => ?_) fun _ _ e => e)
    obtain ⟨v, rfl, hq⟩ := z
    exact wpAny_pure hq
  · refine wpAny_bind (wpAny_pure ?_)
    simp only [Bool.false_eq_true, if_false]
    refine wpAny_bind (wpAny_mono one (fun r s' z => ?_) fun _ _ e => e)
    obtain ⟨v, rfl, hq⟩ := z
    exact wpAny_pure hq
end

/-! ### types of data -/
theorem ty_is {X : Cx} {cm : Nat → Addr} {pins : List (Addr × Obj)} {σ : L2.St} {F H : Hp} {s : Shared} {y : V} {u : Value} {d : D} {n : String} (I : Inv X pins σ H s) (fh : Same F H) (i : DL.Is X.K cm F y d) (r : RelV y u) (h : tyN d = some n) : s.TypeIs u n := by
  have it : IsT X.K cm F H y d := .inl i
  cases d <;> simp only [tyN, Option.some.injEq, reduceCtorEq] at h <;> subst h
  · rw [it.non] at r; obtain rfl : u = Value.none := r; rfl
  · rw [it.bl] at r; obtain rfl : u = Value.bool _ := r; rfl
  · rw [it.int] at r; obtain ⟨t, rfl⟩ := r; rfl
  · rw [it.str] at r; obtain ⟨t, rfl⟩ := r; rfl
  · obtain ⟨a, vs, rfl, h1, _⟩ := it.lst fh
    cases r
    obtain ⟨its, _, p, _⟩ := I.list h1
    exact p.isList.typeIs
  · obtain ⟨a, vs, rfl, h1, _⟩ := it.tup fh
    cases r
    obtain ⟨its, _, p, _⟩ := I.tuple h1
    exact (show s.heap.IsTuple a its.toArray from p).typeIs
  · obtain ⟨a, ho, rfl, h1, h2⟩ := it.dic fh
    cases r
    have hx : ∃ K0, ObjOk X.prog X.w K0 s.heap a ho := by
      rcases h1 with h1 | ⟨_, o, h1⟩
      · exact ⟨_, I.hok a ho h1⟩
      · exact ⟨_, (I.hok a _ h1).2⟩
    obtain ⟨K0, hx⟩ := hx
    cases h2 with
    | dK _ _ =>
      obtain ⟨_, _, _, _, hm⟩ := hx
      exact hm.typeIs
    | dT _ _ =>
      obtain ⟨_, _, _, _, o, es, ep, e, c, _⟩ := hx
      exact ⟨o, e, c.1⟩
theorem looks_ty {M : Model} {s : Shared} {u : Value} {n : String} (h : s.TypeIs u n) : PySem.W.Looks M s.heap (typeOf u) (.type n) := fun A Q E s' k q => wpAny_typeOf (by
  cases u <;> first | exact h | (obtain ⟨o, e, c⟩ := h; exact ⟨o, k _ _ e, c⟩)) q
/-- the built-in types that own classes are never ahead of -/
theorem mro_b {K : PySem.W.Frag} {C : Addr} {n : String} (h : (fastBuiltinMro n).any (fun l => l.all fun v => match v with | .type _ => true | _ => false) = true) : PySem.W.notFirst K C (.type n) = true := by
  rcases e : fastBuiltinMro n with _ | l
  · rw [e] at h; cases h
  · rw [e] at h
    have h : (l.all fun v => match v with | .type _ => true | _ => false) = true := by simpa using h
    have hs : PySem.W.subIn K (.type n) (.ref C) = some false := by
      show (fastBuiltinMro n).map (·.contains (.ref C)) = some false
      rw [e]
      simp only [Option.map_some, Option.some.injEq]
      rw [Bool.eq_false_iff]
      intro hc
      have hm : Value.ref C ∈ l := by simpa using hc
      exact absurd (List.all_eq_true.mp h _ hm) (by simp)
    unfold PySem.W.notFirst
    rw [hs]; simp
theorem notFirst_b {K : PySem.W.Frag} {C : Addr} {d : D} {n : String} (h : tyN d = some n) : PySem.W.notFirst K C (.type n) = true := by
  refine mro_b ?_
  cases d <;> simp only [tyN, Option.some.injEq, reduceCtorEq] at h <;> subst h <;> decide +kernel

/-! ### x == y, x != y, x an instance of class c -/
structure DefEqO (P : Program) (w : World) (K : PySem.W.Frag) (mg : Str → Option Value) (base : Heap) (cm : Nat → Addr) (k : Nat) (c : Nat) (φ : Fn) : Prop where
  ex : ∃ f fd ps, ps.length = 2 ∧ PySem.W.findIn K (.ref (cm c)) "__eq__" = some (some (.ref f)) ∧ PySem.W.isFn K (.ref f) = true ∧ PySem.W.findIn K (.ref (cm c)) "__ne__" = some (some (.builtin "object.__ne__")) ∧
    PySem.W.mroIn K (cm c) (.type "object") = some true ∧ Binds K fd ps [] ∧ FnG P w K mg base k f fd ps (spD K cm 2 φ)
/-- x: an instance of class c; y: one, or a value of a built-in type -/
def eqAble (c : Nat) (x y : D) : Bool := match x with
  | .ins c' _ _ => decide (c' = c) && (match y with
    | .ins c' _ _ => decide (c' = c)
    | y => (tyN y).isSome)
  | _ => false
def boolA (n : Bool) : Option Ans → M Rf
  | some (.ok (.dat (.bl b))) => ret (.dat (.bl (if n then !b else b)))
  | _ => fail
def sEqO (n : Bool) (c : Nat) (φ : Fn) (a b : M Rf) : M Rf := bnd (cap a) fun x => bnd (cap b) fun y => if eqAble c x y then boolA n (φ [x, y]) else fail
section
variable {T : Tx} {a b : Expr} {ca cb : M Rf} {pos : Pos} {c k : Nat} {φ : Fn}
def rEqO (T : Tx) (n : Bool) (c : Nat) (φ : Fn) : R2 := fun x y H Q => ∃ F d1 d2 k, Same F H ∧ T.Is F x d1 ∧ T.Is F y d2 ∧ eqAble c d1 d2 = true ∧ φ [d1, d2] = some (.ok (.dat (.bl k))) ∧ ∀ F' H', Step F H F' H' → Q (.bl (if n then !k else k)) H'
theorem eqO_weak {n : Bool} {B F0 : Hp} {σ : L2.St} {H : Hp} {Q : VK} (h : tS T B F0 (sEqO n c φ ca cb) σ H Q) : tOp (rEqO T n c φ) (tD T B F0 (cap ca)) (tD T B F0 (cap cb)) σ H Q := by
  obtain ⟨F, Γ, r⟩ := h
  refine ⟨F, Γ, r.bnd.mono fun x F1 Γ1 H1 q1 S1 r1 v hv => ⟨F1, Γ1, r1.bnd.mono fun y F2 Γ2 H2 q2 S2 r2 u hu => ?_⟩⟩
  by_cases he : eqAble c x y = true
  · rw [if_pos he] at r2
    match e : φ [x, y], r2 with
    | some (.ok (.dat (.bl b))), r2 =>
      refine ⟨F2, x, y, b, S2.fh, hv.mono q2 _, hu, he, e, fun F' H' t => ?_⟩
      exact r2.2 F' H' t.ff (S2.step t) _ (.bl _)
    | none, r2 => exact r2.2.elim
    | some (.error _), r2 => exact r2.2.elim
    | some (.ok (.own _)), r2 => exact r2.2.elim
    | some (.ok (.slot _)), r2 => exact r2.2.elim
    | some (.ok (.dat .non)), r2 => exact r2.2.elim
    | some (.ok (.dat (.int _))), r2 => exact r2.2.elim
    | some (.ok (.dat (.str _))), r2 => exact r2.2.elim
    | some (.ok (.dat (.ty _))), r2 => exact r2.2.elim
    | some (.ok (.dat (.cls _))), r2 => exact r2.2.elim
    | some (.ok (.dat (.lst _))), r2 => exact r2.2.elim
    | some (.ok (.dat (.tup _))), r2 => exact r2.2.elim
    | some (.ok (.dat (.dic _ _))), r2 => exact r2.2.elim
    | some (.ok (.dat (.ins _ _ _))), r2 => exact r2.2.elim
    | some (.ok (.dat (.exc _ _ _))), r2 => exact r2.2.elim
  · rw [if_neg he] at r2
    exact r2.2.elim
/-- what the two sides are -/
theorem eq_sides {pins : List (Addr × Obj)} {σ : L2.St} {F H : Hp} {s : Shared} {x y : V} {v u : Value} {d1 d2 : D} (I : Inv T.X pins σ H s) (fh : Same F H) (i1 : T.Is F x d1) (i2 : T.Is F y d2) (rx : RelV x v) (ry : RelV y u) (h : eqAble c d1 d2 = true) :
    ∃ a od tb, v = .ref a ∧ (∃ ox, PySem.W.InstAt s.heap a ox (T.cm c) od) ∧ PySem.W.Looks (model T.X.prog T.X.w) s.heap (typeOf u) tb ∧ PySem.W.notFirst T.X.K (T.cm c) tb = true := by
  cases d1 with
  | ins c1 fs vs =>
    simp only [eqAble, Bool.and_eq_true, decide_eq_true_eq] at h
    obtain ⟨rfl, h⟩ := h
    obtain ⟨a, dx, ws, rfl, g1, _, _⟩ := IsT.ins fh (.inl i1)
    cases rx
    obtain ⟨mA, J, _⟩ := ins_get I.hok g1
    obtain ⟨od, J, _⟩ := J.look
    have fin : ∀ n, tyN d2 = some n → ∃ a' od' tb, Value.ref a = .ref a' ∧ (∃ ox, PySem.W.InstAt s.heap a' ox (T.cm c1) od') ∧ PySem.W.Looks (model T.X.prog T.X.w) s.heap (typeOf u) tb ∧ PySem.W.notFirst T.X.K (T.cm c1) tb = true := fun n e =>
      ⟨a, _, .type n, rfl, ⟨_, J⟩, looks_ty (ty_is I fh i2 ry e), notFirst_b e⟩
    cases d2 with
    | ins c2 gs us =>
      simp only [decide_eq_true_eq] at h
      subst h
      obtain ⟨b, dy, zs, rfl, g2, _, _⟩ := IsT.ins fh (.inl i2)
      cases ry
      obtain ⟨mB, J', _⟩ := ins_get I.hok g2
      obtain ⟨od', J', _⟩ := J'.look
      exact ⟨a, _, _, rfl, ⟨_, J⟩, J'.type, by simp [PySem.W.notFirst]⟩
    | _ =>
      obtain ⟨n, e⟩ := Option.isSome_iff_exists.mp h
      exact fin n e
  | _ => cases h
theorem op_eqO (G : DefEqO T.X.prog T.X.w T.X.K T.X.mg T.X.base T.cm k c φ) (ck : Cok T k) : OpR T.X (compareOp .Eq) (rEqO T false c φ) := by
  intro pins s σ H x y v u Q I rx ry ⟨F, d1, d2, b, fh, i1, i2, he, hφ, q⟩
  obtain ⟨f, fd, ps, hl, hs, hf, _, _, hb, G⟩ := G.ex
  obtain ⟨a, od, tb, rfl, ⟨ox, J⟩, L, nf⟩ := eq_sides I fh i1 i2 rx ry he
  obtain ⟨m, hF⟩ := I.fr
  show wpAny (model T.X.prog T.X.w) T.X.A (richCompare .Eq (.ref a) u) (EP T.X pins σ Q) T.X.xe s
  refine PySem.W.cmp_K (op := .Eq) (tb := tb) ck.room.units0 hF I.ok.mod.kin J L nf hs hf ?_
  refine wpAny_mono (run_fnG (us := [.ref a, u]) (vs := [x, y]) (Q := fun v H' => v = .bl b ∧ Q (.bl b) H') G ck.room ck.grd hb .nil (passAt ck.tk σ) I (.cons rx (.cons ry .nil)) ?_) (fun r s' z => ?_) fun _ _ e => e
  · rw [List.append_nil]
    exact ⟨F, [d1, d2], _, rfl, fh, .cons i1 (.cons i2 .nil), hφ, fun v F' H' t i => ⟨IsT.bl (H := H') (.inl i), q F' H' t⟩⟩
  · obtain ⟨v, H', I', rv, rfl, z⟩ := z
    obtain rfl : r = Value.bool b := rv
    exact ⟨.bl b, H', I', rfl, z⟩
theorem op_neO (G : DefEqO T.X.prog T.X.w T.X.K T.X.mg T.X.base T.cm k c φ) (ck : Cok T (k + 1)) : OpR T.X (compareOp .NotEq) (rEqO T true c φ) := by
  intro pins s σ H x y v u Q I rx ry ⟨F, d1, d2, b, fh, i1, i2, he, hφ, q⟩
  obtain ⟨f, fd, ps, hl, hs, hf, hne, hm, hb, G⟩ := G.ex
  obtain ⟨a, od, tb, rfl, ⟨ox, J⟩, L, nf⟩ := eq_sides I fh i1 i2 rx ry he
  obtain ⟨m, hF⟩ := I.fr
  show wpAny (model T.X.prog T.X.w) T.X.A (richCompare .NotEq (.ref a) u) (EP T.X pins σ Q) T.X.xe s
  refine neq_K (tb := tb) (by have := ck.room.units; omega) hF I.ok.mod.kin J L nf hs hne hm hf ?_
  have hsp : spD T.X.K T.cm 2 φ [x, y] H (fun v H' => v = .bl b ∧ Q (.bl (!b)) H') fun _ _ _ => False :=
    ⟨F, [d1, d2], _, rfl, fh, .cons i1 (.cons i2 .nil), hφ, fun v F' H' t i => ⟨IsT.bl (H := H') (.inl i), q F' H' t⟩⟩
  have hbb := hb s [.ref a, u] I.kIn (by simpa using hl.symm)
  rw [List.append_nil] at hbb
  refine wpAny_call (codeAny_mono (G.run T.X.A.in1 T.X.stack s H ⟨[.ref a, u], []⟩ [.ref a, u] [x, y] _ (fun _ _ _ => False) ck.room.in1 ck.grd I.env0.in1 hbb (.cons rx (.cons ry .nil)) hsp) fun r s' hq => ?_)
  cases r with
  | error er =>
    obtain ⟨_, _, _, _, _, _, _, _, _, _, _, _, z⟩ := hq
    exact z.elim
  | ok fl =>
    cases fl with
    | ret r =>
      obtain ⟨v, H', I', rv, rfl, z⟩ := I.after hq
      obtain rfl : r = Value.bool b := rv
      exact ⟨b, rfl, .bl (!b), H', I', rfl, z⟩
    | next => exact False.elim hq
    | brk => exact False.elim hq
    | cont => exact False.elim hq
theorem re_eqO (G : DefEqO T.X.prog T.X.w T.X.K T.X.mg T.X.base T.cm k c φ) (ck : Cok T k) (ha : RE T a ca) (hb : RE T b cb) (hm : behindInMarks .Eq b = false := by first | exact nomark _ | rfl) : RE T (.Compare a [.Eq] [b] pos) (sEqO false c φ ca cb) := fun B F0 =>
  (pe_cmpR (op_eqO G ck) (rd_of ha B F0) (rd_of hb B F0) hm).weak fun _ _ _ h => eqO_weak h
theorem re_neO (G : DefEqO T.X.prog T.X.w T.X.K T.X.mg T.X.base T.cm k c φ) (ck : Cok T (k + 1)) (ha : RE T a ca) (hb : RE T b cb) (hm : behindInMarks .NotEq b = false := by first | exact nomark _ | rfl) : RE T (.Compare a [.NotEq] [b] pos) (sEqO true c φ ca cb) := fun B F0 =>
  (pe_cmpR (op_neO G ck) (rd_of ha B F0) (rd_of hb B F0) hm).weak fun _ _ _ h => eqO_weak h
theorem rt_of_bool {op : CmpOp} {n : Bool} (hO : OpR T.X (compareOp op) (rEqO T n c φ)) (ha : RE T a ca) (hb : RE T b cb) (hm : behindInMarks op b = false := by first | exact nomark _ | rfl) : RT T (.Compare a [op] [b] pos) (sB (sEqO n c φ ca cb)) := fun B F0 =>
  (pt_cmpR hO (rd_of ha B F0) (rd_of hb B F0) hm).weak fun _ _ _ h => eqO_weak (b_weak h)
end
end DL

/-! DL19: C.m(e, ..), m a staticmethod. -/
namespace DL
open PySem L2 PyProof.Rows

structure DefSm (P : Program) (w : World) (K : PySem.W.Frag) (mg : Str → Option Value) (base : Heap) (cm : Nat → Addr) (k : Nat) (x : Str) (c : Nat) (m : Str) (ps : List Str) (φ : Fn) : Prop where
  ex : ∃ mc p f fd rest, mg x = some (.ref (cm c)) ∧ ClX.CRead K (cm c) mc ∧ PySem.W.findCls K (.ref (cm c)) mc m = some (.get (.builtin "staticmethod.__get__") (.ref p) .none (.ref (cm c))) ∧ PySem.W.recIn K p "staticmethod" = some (.ref f :: rest) ∧ PySem.W.keepIn K (.ref f) = true ∧
    Binds K fd ps [] ∧ FnG P w K mg base k f fd ps (spD K cm ps.length φ)
section
variable {T : Tx} {e : Expr} {es : List Expr} {cs : M (List D)} {pos p apos : Pos} {m x : Str} {k c : Nat} {ps : List Str} {φ : Fn}
theorem re_sm {pl : Sem Bool} (c : Nat) (G : DefSm T.X.prog T.X.w T.X.K T.X.mg T.X.base T.cm k x c m ps φ) (ck : Cok T k) (ha : RA T (e :: es) cs) (hg : Gl T.X x := by rfl) (hd : (x == ("__debug__" : Str)) = false := by decide)
    (hst : starEach (e :: es) T.X.env = (false, eval e T.X.env) :: starEach es T.X.env := by rfl) (hpl : (backTo pos (starEach es T.X.env)).any (·.1) = false := by rfl)
    (ht : eval (.Call (.Attribute (.Name x p) m apos) (e :: es) [] pos) T.X.env = (do
      let ov ← eval (.Name x p) T.X.env
      standAt apos.atName
      let (f, first) ← holding [ov] (getMethod ov m pl)
      callWith pos f first (backTo pos (starEach (e :: es) T.X.env)) (backToKw pos (keywordEach [] T.X.env))) := by rfl) :
    RE T (.Call (.Attribute (.Name x p) m apos) (e :: es) [] pos) (sCallF (argN ps.length φ) cs) := fun B F0 => by
  obtain ⟨mc, p0, f, fd, rest, hm, cr, hf, hrec, kp, hb, F⟩ := G.ex
  refine ⟨fun pins s σ H Q I ⟨F1, Γ1, r⟩ => ?_⟩
  refine PySem.W.methodCall_KW (pl := pl) (thn ((pe_glob (v := .ref (T.cm c)) hg hm rfl hd).run pins s σ H (fun v H1 => v = .ref (T.cm c) ∧ tA T B F0 cs σ H1 fun vs H2 => spD T.X.K T.cm ps.length φ vs H2 Q (WE T.W σ)) I
    ⟨rfl, F1, Γ1, r.bnd.mono fun ds F2 Γ2 H2 q2 S2 r2 vs hvs => ?_⟩) fun u s1 ⟨v, H1, I1, rv, ev, q⟩ => ?_) ht
  · obtain ⟨r0, e0, h0⟩ := r2.liftX
    unfold argN at e0
    split at e0
    · rename_i hn
      exact ⟨F2, ds, r0, by rw [← hn]; simp [hvs.length], S2.fh, hvs, e0, h0⟩
    · cases e0
  · subst ev
    obtain rfl : u = Value.ref (T.cm c) := rv
    refine PySem.W.method_cls I1.kIn cr.ga (PySem.W.cls_bind I1.kIn cr.rd hf ?_)
    refine wpAny_call (PySem.W.sm_get (s := { s1 with toks := s1.toks + 1 }) I1.kIn hrec (PySem.W.handed_on rfl ?_))
    have I2 : Inv T.X pins σ H1 { s1 with toks := s1.toks + 1 } := I1.tok _
    refine PySem.W.callWith_K (first := []) (h₀ := T.X.base) I2.ok.mod.kin kp (thn ((ha B F0).run pos pins _ σ H1 _ I2 q) fun us s2 ⟨vs, H2, I3, r, q2⟩ => ⟨I3.kIn, ?_⟩) hst hpl
    exact run_fnG F ck.room ck.grd hb .nil (passAt ck.tk σ) I3 r (by rw [List.append_nil]; exact q2)
end
end DL

/-! DL20: isinstance(x, C), C an own class; x a kept exception, an instance, a value of a built-in type. -/
namespace DL
open PySem PySem.Spec PyProof.Rows L2

section
open PySem.W PySem.Calls
variable {prog : Program} {w : World} {A : Around} {E : Value → Shared → Prop} {s : Shared} {K : PySem.W.Frag} {x D : Addr} {ox : Obj} {od : Option Obj}
/-- e.__class__ of an exception, with a dict or without -/
theorem class_exc {Q : Option Value → Shared → Prop} (T : ExcC K D) (X : K.In s.heap) (I : PySem.W.InstAt s.heap x ox D od) (h : Q (some (.ref D)) { s with toks := s.toks + 1 }) : wpAny (model prog w) A (getAttr? (.ref x) "__class__") Q E s := by
  have hcl : (clsIn K D).isSome = true := by obtain ⟨cd, hc, _⟩ := any_some T.hd; rw [hc]; rfl
  have hf : findObj K D od "__class__" = some (.bind (.builtin "getset_descriptor.__get__") (.builtin "object.__class__")) := by
    cases od with
    | none => exact findObj_dataN hcl T.ha T.hn T.ht
    | some o => exact findObj_data hcl T.ha T.hn T.ht
  obtain ⟨hp, g, d, t, os⟩ := s
  have L0 := I.type (M := model prog w)
  have L1 := looks_findIn (M := model prog w) X T.hg
  have L2 := looks_findIn (M := model prog w) X T.hk
  have L3 := looks_find (M := model prog w) X I hf
  have sub : Looks (model prog w) hp (isInstance (.ref x) (.type "BaseException")) true := L0.andThen (looks_subIn X T.hs)
  have hx0 : (false && onTheHeap (Value.builtin "BaseException.__getattribute__")) = false := rfl
  have hx2 : (Value.builtin "BaseException.__getattribute__" == Value.builtin "object.__getattribute__") = false := by decide +kernel
  have hx1 : (onTheHeap (Value.ref D) && Value.builtin "BaseException.__getattribute__" == Value.builtin "object.__getattribute__") = false := by rw [hx2]; rfl
  unfold getAttr? getAttrBy? getAttrBy
  refine wpAny_bind (wpAny_mkText (wpAny_bind (wpAny_attempt (wpAny_holding (wpAny_bind (L0.at (wpAny_bind (L1.at ?_))))))))
  show wpAny _ _ (if (onTheHeap (Value.ref D) && Value.builtin "BaseException.__getattribute__" == Value.builtin "object.__getattribute__") = true then _ else _) _ _ _
  rw [hx1, if_neg Bool.false_ne_true]
  unfold getAttrByItsOwn hookBefore
  refine wpAny_bind ?_
  rw [if_pos (show onTheHeap (Value.ref D) = true from rfl)]
  refine L2.at ?_
  refine wpAny_bind (wpAny_attempt (wpAny_holding ?_))
  unfold callGetattribute
  rw [hx0, if_neg Bool.false_ne_true]
  unfold boundAndCalled
  rw [PySem.F.excAttr_ValueError.ga.bind (.ref x)]
  refine wpAny_bind (wpAny_pure ?_)
  show wpAny _ _ (call (.builtin "BaseException.__getattribute__") [.ref x, .str "__class__" t]) _ _ _
  refine wpAny_call (codeAny_call_builtin PySem.F.excAttr_ValueError.ga.plain PySem.F.entry_bexc_ga ?_)
  refine @check_slot (model prog w) _ _ ⟨hp, g, d, t + 1, os⟩ "BaseException.__getattribute__" "BaseException" "__getattribute__" (.ref x) [.str "__class__" t] [] _ (by decide +kernel) (by decide +kernel) sub (PySem.F.args_bexc_ga (.ref x) (.str "__class__" t)) ?_
  unfold Builtin.«object.__getattribute__»
  refine wpAny_bind (wpAny_of_eq (a := ((Value.ref x : Value), [Value.str "__class__" t])) (by first | rfl | (simp only [slotArgs]; rfl)) ?_)
  refine wpAny_bind (wpAny_pure (wpAny_bind (L0.at (wpAny_bind (L3.at ?_)))))
  show wpAny _ _ (holding [Value.builtin "object.__class__"] (call (.builtin "getset_descriptor.__get__") [.builtin "object.__class__", .ref x, .ref D]) >>= PySem.ret) _ _ _
  refine wpAny_bind (wpAny_holding (wpAny_call (class_get (s := ⟨hp, g, d, t + 1, os⟩) (ox := ox) (od := od) X I T.hm ?_)))
  refine wpAny_pure ?_
  show wpAny _ _ (handedOut (.ref D)) _ _ _
  rw [handedOut_of (v := .ref D) rfl]
  first
    | exact wpAny_pure (wpAny_pure h)
    | exact wpAny_pure h
    | exact wpAny_pure (wpAny_bind (wpAny_pure (wpAny_pure h)))
theorem kitx_exc (T : ExcC K D) : KitX K (.ref x) (.ref D) (fun h => ∃ ox od, PySem.W.InstAt h x ox D od) :=
  have B : KitX K (.ref x) (.ref D) (fun h => PySem.W.InstAt h x { cls := .none, data := .fields #[] } D none) := PySem.W.handS_kitx_exc T.hg T.hk T.hs T.hd T.ha T.hn T.ht T.hm
  { ty := fun _ _ _ ⟨_, _, I⟩ => I.type
    it := fun _ _ X _ => by
      obtain ⟨cdD, hcD, _⟩ := any_some T.hd
      unfold clsIn at hcD
      split at hcD
      · rename_i c' d' cd' sl' ho
        intro A' Q' E' s' k q
        unfold isType loadHead
        exact wpAny_bind (wpAny_loadPart (k _ _ (X _ _ ho)) (wpAny_pure q))
      · cases hcD
    ne := B.ne
    ca := fun X ⟨_, _, I⟩ k => class_exc T X I k }
end

/-- what an own class that is no exception must say -/
structure InsC (K : PySem.W.Frag) (C : Addr) : Prop where
  cl : Cls K C
  ha : PySem.W.findIn K (.ref C) "__class__" = some (some (.builtin "object.__class__"))
  hn : PySem.W.specialIn K (.builtin "object.__class__") "__get__" = some (some (.builtin "getset_descriptor.__get__"))
  ht : PySem.W.takesIn K (.builtin "object.__class__") = some true
  hm : PySem.W.mroIn K C (.type "object") = some true
/-- isinstance as a function of data; isE: the own exceptions; tb c c': of an instance of c for the class c'; tn: for a built-in type; bt: built-in types that are no subclass of c' -/
def isiOF (isE : Nat → Bool) (tb : Nat → Nat → Option Bool) (tn : Nat → String → Option Bool) (bt : Nat → String → Bool) : List D → Option Rf
  | [d, .ty n] => match d with
    | .exc c _ _ => if isE c then (tn c n).map fun b => .dat (.bl b) else none
    | .ins c _ _ => if isE c then none else (tn c n).map fun b => .dat (.bl b)
    | d => (tyN d).bind fun t => (kitB t n).map fun b => .dat (.bl b)
  | [d, .cls c'] => match d with
    | .exc c _ _ => if isE c then (tb c c').map fun b => .dat (.bl b) else none
    | .ins c _ _ => if isE c then none else (tb c c').map fun b => .dat (.bl b)
    | d => (tyN d).bind fun t => if bt c' t then some (.dat (.bl false)) else none
  | _ => none
section
variable {T : Tx} {isE : Nat → Bool} {tb : Nat → Nat → Option Bool} {tn : Nat → String → Option Bool} {bt : Nat → String → Bool}
structure IsiF (K : PySem.W.Frag) (cm : Nat → Addr) (isE : Nat → Bool) (tb : Nat → Nat → Option Bool) (tn : Nat → String → Option Bool) (bt : Nat → String → Bool) : Prop where
  exc : ∀ c, isE c = true → (∃ c' b, tb c c' = some b) ∨ (∃ n b, tn c n = some b) → ExcC K (cm c)
  ins : ∀ c, isE c = false → (∃ c' b, tb c c' = some b) ∨ (∃ n b, tn c n = some b) → InsC K (cm c)
  own : ∀ c c' b, tb c c' = some b → PySem.W.kitOne K (.ref (cm c)) (.ref (cm c')) = some b
  typ : ∀ c n b, tn c n = some b → PySem.W.kitOne K (.ref (cm c)) (.type n) = some b
  bas : ∀ c n, bt c n = true → PySem.W.kitOne K (.type n) (.ref (cm c)) = some false
theorem call_isiO (G : IsiF T.X.K T.cm isE tb tn bt) : CallD T (.builtin "isinstance") (isiOF isE tb tn bt) := by
  intro pins s σ H vs us Q I r ⟨F, ds, fh, at_, h⟩
  -- a class of a built-in type or an own one, asked of data
  have base : ∀ (d : D) (v : V) (c : V) (u : Value) (t : String) (b : Bool), vs = [v, c] → ClsV c u → IsT T.X.K T.cm F H v d → tyN d = some t → PySem.W.kitOne T.X.K (.type t) u = some b → Q (.bl b) H → wpAny (model T.X.prog T.X.w) T.X.A (call (.builtin "isinstance") us) (EP T.X pins σ Q) T.X.xe s :=
    fun d v c u t b ev k i e ek q => call_isi pins s σ H _ us Q I r ⟨v, c, .type t, u, b, ev, k, tyX_of fh i e, ek, q⟩
  have exc : ∀ (c : Nat) (fs : List Str) (xs : List D) (v : V) (cv : V) (u : Value) (b : Bool), vs = [v, cv] → ClsV cv u → IsT T.X.K T.cm F H v (.exc c fs xs) → ExcC T.X.K (T.cm c) → PySem.W.kitOne T.X.K (.ref (T.cm c)) u = some b → Q (.bl b) H → wpAny (model T.X.prog T.X.w) T.X.A (call (.builtin "isinstance") us) (EP T.X pins σ Q) T.X.xe s := by
    intro c fs xs v cv u b ev k i hE ek q
    subst ev
    obtain ⟨u1, u2, rfl, r1, r2⟩ := vals2 r
    have e2 := k.eq r2
    subst e2
    obtain ⟨a, dx, rfl, ha, _⟩ := i.exc fh
    obtain rfl : u1 = Value.ref a := r1
    obtain ⟨o, ws, e1, e2, e3, e4⟩ := (I.hok a _ ha).1
    have J : ∃ ox od, PySem.W.InstAt s.heap a ox (T.cm c) od := by
      cases dx with
      | none => exact ⟨o, none, e1, e2, by unfold PySem.W.notCls; rw [e4] <;> rfl, by rw [e3]; trivial⟩
      | some dd =>
        rename_i hd
        rcases hd with ⟨dd', zs, z1, z2, _⟩ | ⟨z, _⟩
        · cases z1
          obtain ⟨mA, hns, _⟩ := (I.hok dd _ z2 : ObjOk T.X.prog T.X.w H s.heap dd (.xd zs))
          obtain ⟨od, hod, _⟩ := lookIn_ns hns
          exact ⟨o, some od, e1, e2, by unfold PySem.W.notCls; rw [e4] <;> rfl, by rw [e3]; exact hod⟩
        · cases z
    exact PySem.W.kia_one (kitx_exc hE) I.kIn J ek (fun z => nomatch z) fun tk => ⟨.bl b, H, I.tok tk, rfl, q⟩
  have ins : ∀ (c : Nat) (fs : List Str) (xs : List D) (v : V) (cv : V) (u : Value) (b : Bool), vs = [v, cv] → ClsV cv u → IsT T.X.K T.cm F H v (.ins c fs xs) → InsC T.X.K (T.cm c) → PySem.W.kitOne T.X.K (.ref (T.cm c)) u = some b → Q (.bl b) H → wpAny (model T.X.prog T.X.w) T.X.A (call (.builtin "isinstance") us) (EP T.X pins σ Q) T.X.xe s := by
    intro c fs xs v cv u b ev k i hI ek q
    obtain ⟨a, dx, ws, rfl, ha, _, _⟩ := i.ins fh
    exact call_isi pins s σ H _ us Q I r ⟨_, cv, _, u, b, ev, k, .base (.ins ha hI.cl hI.ha hI.hn hI.ht hI.hm), ek, q⟩
  have tail1 : ∀ (d : D) (v : V) (n : String), vs = [v, .ty n] → IsT T.X.K T.cm F H v d → Res T F H Q ((tyN d).bind fun t => (kitB t n).map fun b => .dat (.bl b)) → wpAny (model T.X.prog T.X.w) T.X.A (call (.builtin "isinstance") us) (EP T.X pins σ Q) T.X.xe s := by
    intro d v n ev i h
    rcases e : tyN d with _ | t
    · simp only [e, Option.bind_none] at h; exact h.elim
    · rcases e2 : kitB t n with _ | b
      · simp only [e, e2, Option.bind_some, Option.map_none] at h; exact h.elim
      · simp only [e, e2, Option.bind_some, Option.map_some] at h
        exact base d v _ _ t b ev (.ty n) i e (kit_ty e2) (h.val fh (.bl _))
  have tail2 : ∀ (d : D) (v : V) (c' : Nat), vs = [v, .ref (T.cm c')] → IsT T.X.K T.cm F H v d → Res T F H Q ((tyN d).bind fun t => if bt c' t then some (.dat (.bl false)) else none) → wpAny (model T.X.prog T.X.w) T.X.A (call (.builtin "isinstance") us) (EP T.X pins σ Q) T.X.xe s := by
    intro d v c' ev i h
    rcases e : tyN d with _ | t
    · simp only [e, Option.bind_none] at h; exact h.elim
    · simp only [e, Option.bind_some] at h
      split at h
      · rename_i hb
        exact base d v _ _ t false ev (.own _) i e (G.bas c' t hb) (h.val fh (.bl _))
      · exact h.elim
  match ds, at_, h with
  | [d, .ty n], at_, h =>
    obtain ⟨v, u, rfl, i1, i2⟩ := at_.two
    have e2 := i2.ty
    subst e2
    cases d with
    | exc c fs xs =>
      simp only [isiOF] at h
      split at h
      · rename_i hE
        rcases e : tn c n with _ | b
        · simp only [e, Option.map_none] at h; exact h.elim
        · simp only [e, Option.map_some] at h
          exact exc c fs xs v _ _ b rfl (.ty n) i1 (G.exc c hE (.inr ⟨n, b, e⟩)) (G.typ c n b e) (h.val fh (.bl _))
      · exact h.elim
    | ins c fs xs =>
      simp only [isiOF] at h
      split at h
      · exact h.elim
      · rename_i hE
        rcases e : tn c n with _ | b
        · simp only [e, Option.map_none] at h; exact h.elim
        · simp only [e, Option.map_some] at h
          exact ins c fs xs v _ _ b rfl (.ty n) i1 (G.ins c (by simpa using hE) (.inr ⟨n, b, e⟩)) (G.typ c n b e) (h.val fh (.bl _))
    | _ => exact tail1 _ v n rfl i1 h
  | [d, .cls c'], at_, h =>
    obtain ⟨v, u, rfl, i1, i2⟩ := at_.two
    have e2 := i2.cls
    subst e2
    cases d with
    | exc c fs xs =>
      simp only [isiOF] at h
      split at h
      · rename_i hE
        rcases e : tb c c' with _ | b
        · simp only [e, Option.map_none] at h; exact h.elim
        · simp only [e, Option.map_some] at h
          exact exc c fs xs v _ _ b rfl (.own _) i1 (G.exc c hE (.inl ⟨c', b, e⟩)) (G.own c c' b e) (h.val fh (.bl _))
      · exact h.elim
    | ins c fs xs =>
      simp only [isiOF] at h
      split at h
      · exact h.elim
      · rename_i hE
        rcases e : tb c c' with _ | b
        · simp only [e, Option.map_none] at h; exact h.elim
        · simp only [e, Option.map_some] at h
          exact ins c fs xs v _ _ b rfl (.own _) i1 (G.ins c (by simpa using hE) (.inl ⟨c', b, e⟩)) (G.own c c' b e) (h.val fh (.bl _))
    | _ => exact tail2 _ v c' rfl i1 h
end
end DL

/-! DL21: x[::-1]. -/
namespace DL
open PySem PySem.Spec PyProof.Rows L2 HT

section
variable {prog : Program} {w : World} {A : Around} {E : Value → Shared → Prop} {s : Shared}
theorem adjust_rev (n : Nat) : Builtin.Slice.sliceAdjust none none (-1) (n : Int) = ((n : Int) - 1, -1) := by
  unfold Builtin.Slice.sliceAdjust
  simp
theorem places_rev (n : Nat) : Builtin.Slice.slicePlaces ((n : Int) - 1) (-1) (-1) = n := by
  unfold Builtin.Slice.slicePlaces
  have h1 : ¬ ((-1 : Int) > 0) := by omega
  simp only [h1, if_false]
  split
  · simp
  · omega
theorem applied_rev {sl : Addr} {v3 : Value} {n : Nat} {Q : Int × Int × Nat → Shared → Prop} (hs : s.heap.IsSliceOf sl .none .none v3) (p3 : IsPart v3 (some (-1)))
    (h : Q ((n : Int) - 1, -1, n) s) : wpAny (model prog w) A (Builtin.Slice.sliceApplied (.ref sl) (pure (n : Int))) Q E s := by
  obtain ⟨os, hos, hcs, hds⟩ := id hs
  unfold Builtin.Slice.sliceApplied Builtin.Slice.sliceFields
  refine wpAny_bind (wpAny_bind (wpAny_field hos hds (x := .none) rfl (wpAny_bind (wpAny_field hos hds (x := .none) rfl (wpAny_bind (wpAny_field hos hds (x := v3) rfl (wpAny_pure ?_)))))))
  refine wpAny_bind (slicePart_ p3 ?_)
  show wpAny _ _ (if ((-1 : Int) == 0) = true then _ else _) _ _ s
  rw [if_neg (by decide)]
  refine wpAny_bind (slicePart_none (wpAny_bind (slicePart_none (wpAny_bind (wpAny_pure ?_)))))
  show wpAny _ _ (match Builtin.Slice.sliceAdjust none none (-1) (n : Int) with | (lo, hi) => pure (lo, (-1 : Int), Builtin.Slice.slicePlaces lo hi (-1))) _ _ s
  rw [adjust_rev n]
  show wpAny _ _ (pure ((n : Int) - 1, (-1 : Int), Builtin.Slice.slicePlaces ((n : Int) - 1) (-1) (-1))) _ _ s
  rw [places_rev]
  exact wpAny_pure h
theorem fm_some {α β : Type} {f : α → Option β} {g : α → β} : ∀ l : List α, (∀ m ∈ l, f m = some (g m)) → l.filterMap f = l.map g
  | [], _ => rfl
  | x :: l, h => by rw [List.filterMap_cons, h x List.mem_cons_self]; simp only [List.map_cons]; rw [fm_some l fun m hm => h m (List.mem_cons_of_mem _ hm)]
theorem pick_rev (xs : Array Value) : ((List.range xs.size).filterMap fun (m : Nat) => xs[((xs.size : Int) - 1 + (m : Int) * (-1)).toNat]?).toArray = xs.toList.reverse.toArray := by
  congr 1
  have e : ∀ m ∈ List.range xs.size, xs[((xs.size : Int) - 1 + (m : Int) * (-1)).toNat]? = some (xs.toList.reverse.getD m .none) := fun m hm => by
    have hm := List.mem_range.mp hm
    have e1 : ((xs.size : Int) - 1 + (m : Int) * (-1)).toNat = xs.size - 1 - m := by omega
    have h2 : m < xs.toList.reverse.length := by simpa using hm
    rw [e1, List.getD_eq_getElem?_getD, List.getElem?_eq_getElem h2, Option.getD_some, List.getElem_reverse]
    rw [Array.getElem?_eq_getElem (by omega)]
    simp
  rw [fm_some _ e]
  apply List.ext_getElem?
  intro i
  by_cases hi : i < xs.size
  · have h2 : i < xs.toList.reverse.length := by simpa using hi
    rw [List.getElem?_map, List.getElem?_range hi, Option.map_some, List.getElem?_eq_getElem h2, List.getD_eq_getElem?_getD, List.getElem?_eq_getElem h2]
    rfl
  · rw [List.getElem?_eq_none (by simpa using hi), List.getElem?_eq_none (by simpa using hi)]
theorem getItem_tuple_rev {t sl : Addr} {items : Array Value} {v3 : Value} {Q : Value → Shared → Prop} (ht : IsTup s.heap t items) (hs : s.heap.IsSliceOf sl .none .none v3) (p3 : IsPart v3 (some (-1)))
    (h : Q (.ref s.heap.objs.size) { s with heap := s.heap.push { cls := .type "tuple", data := .seq items.toList.reverse.toArray } })
    (hsz : items.size ≤ sizeLine) : wpAny (model prog w) A (getItem (.ref t) (.ref sl)) Q E s := by
  have htake : sizeOk (.seq items.toList.reverse.toArray) := by
    show items.toList.reverse.toArray.size ≤ sizeLine
    simpa using hsz
  obtain ⟨os, hos, hcs, hds⟩ := id hs
  have hTs : s.TypeIs (.ref sl) "slice" := ⟨os, hos, hcs⟩
  unfold getItem
  try with_reducible refine wpAny_holding ?_
  first | refine wpAny_bind (wpAny_pure ?_) | skip
  refine wpAny_bind (wpAny_sequenceKey ht.typeIs (by decide) ?_)
  refine wpAny_bind (wpAny_callSpecial?_slot (name := Str.ofString "__getitem__") ht.typeIs PyProof.Rows.slot_tuple_getitem
    (wpAny_call_entry PyProof.Rows.slot_tuple_getitem ht.typeIs entry_tuple_getitem ?_ (args_tuple_getitem _ _)))
  show wpAny _ _ (Builtin.Tuple.tupleItemsOf (.ref t) >>= _) _ _ s
  refine wpAny_bind (tupleItemsOf_ ht ?_)
  refine wpAny_bind (wpAny_typeOf hTs ?_)
  rw [if_pos (by decide)]
  refine wpAny_bind (applied_rev hs p3 ?_)
  have hno : ¬ (((items.size : Int) - 1 == 0 && (-1 : Int) == 1 && items.size == items.size) = true) := by simp
  show wpAny _ _ (if ((items.size : Int) - 1 == 0 && (-1 : Int) == 1 && items.size == items.size) = true then _ else _) _ _ s
  rw [if_neg hno, pick_rev]
  first
    | exact wpAny_bind (m := Builtin.Tuple.tupleExact _) (wpAny_newObj_type (wpAny_pure ⟨_, rfl, wpAny_pure h⟩) htake)
    | exact wpAny_bind (m := Builtin.Tuple.tupleExact _) (wpAny_newObj_type (wpAny_bind (wpAny_pure (wpAny_pure ⟨_, rfl, wpAny_pure h⟩))) htake)
    | exact wpAny_bind (wpAny_bind (m := Builtin.Tuple.tupleExact _) (wpAny_newObj_type (wpAny_pure (wpAny_pure ⟨_, rfl, wpAny_pure h⟩)) htake))
    | exact wpAny_bind (wpAny_bind (m := Builtin.Tuple.tupleExact _) (wpAny_newObj_type (wpAny_pure ⟨_, rfl, wpAny_pure h⟩) htake))
end

/-! ### the expression -/
def revS (x : Str) : Str := ⟨x.cps.toList.reverse.toArray⟩
def revF : D → Option Rf
  | .lst xs => some (.own (.lst xs.reverse))
  | .tup xs => some (.dat (.tup xs.reverse))
  | .str x => if x.length ≤ big then some (.dat (.str (revS x))) else none
  | _ => none
theorem str_rev (x : Str) : (Builtin.Str.strSliceIndices none none (-1) x.length).filterMap (x.cps[·]?) = x.cps.toList.reverse := by
  have e : Builtin.Str.strSliceIndices none none (-1) x.length = sliceRange ((x.cps.size : Int) - 1) (-1) (-1) := by
    unfold Builtin.Str.strSliceIndices
    simp [Str.length]
  rw [e, PySem.W.krv_sliceRange, PySem.W.krv_range, List.filterMap_reverse]
  congr 1
  have k : ∀ m ∈ List.range x.cps.size, x.cps[m]? = some (x.cps.toList.getD m 0) := fun m hm => by
    have hm := List.mem_range.mp hm
    rw [List.getD_eq_getElem?_getD, Array.getElem?_toList, Array.getElem?_eq_getElem hm]; rfl
  rw [fm_some _ k]
  apply List.ext_getElem?
  intro i
  by_cases hi : i < x.cps.size
  · rw [List.getElem?_map, List.getElem?_range hi, Option.map_some, List.getD_eq_getElem?_getD, Array.getElem?_toList, Array.getElem?_eq_getElem hi]; rfl
  · rw [List.getElem?_eq_none (by simpa using hi), List.getElem?_eq_none (by simpa using hi)]
section
variable {T : Tx} {e : Expr} {ce : M Rf} {k : Nat} {p1 p2 p3 pos : Pos}
theorem re_rev (he : RE T e ce) : RE T (.Subscript e (.Slice none none (some (.UnaryOp .USub (.Constant (.int 1) k p1) p2)) p3) pos) (sOne revF ce) := fun B F0 => by
  refine ⟨fun pins s σ H Q I ⟨F, Γ, r⟩ => ?_⟩
  refine Subscript_ (thn ((re_opnd he B F0).run pins s σ H (fun x H1 => ∃ d F1, Same F1 H1 ∧ IsT T.X.K T.cm F1 H1 x d ∧ Res T F1 H1 Q (revF d)) I ⟨F, Γ, r.bnd.mono fun y F1 Γ1 H1 q1 S1 r1 v hv => let ⟨d, fh, i, h⟩ := r1.app1 hv (.refl _); ⟨d, F1, fh, i, h⟩⟩) fun v s1 ⟨x, H1, I1, r1, d, F1, fh, i, h⟩ => ?_)
  have hst : PO T.X (some (.UnaryOp .USub (.Constant (.int 1) k p1) p2)) (tPart (tUn (rU fun i => .int (-i)) (tC (.int 1)))) := po_some (pe_un un_neg pe_int)
  refine wpAny_Slice (thn (po_none.run pins s1 σ H1 (fun o H2 => o = none ∧ H2 = H1) I1 ⟨rfl, rfl⟩) fun vl s2 ⟨l, H2, I2, pl, el, e2⟩ => ?_)
  subst el e2
  refine thn (po_none.run pins s2 σ H2 (fun o H3 => o = none ∧ H3 = H2) I2 ⟨rfl, rfl⟩) fun vu s3 ⟨u, H3, I3, pu, eu, e3⟩ => ?_
  subst eu e3
  refine thn (hst.run pins s3 σ H3 (fun o H4 => o = some (-1) ∧ H4 = H3) I3 ⟨1, rfl, -1, rfl, rfl, rfl⟩) fun vs s4 ⟨o, H4, I4, ps, eo, e4⟩ => ?_
  subst eo e4
  have I5 : Inv T.X pins σ H4 { s4 with heap := s4.heap.push { cls := .type "slice", data := .fields #[vl, vu, vs] } } := I4.kept (t' := s4.toks) fun b ob q => Heap.get?_push_of_some _ q
  cases d with
  | lst ds =>
    obtain ⟨a, xs, rfl, hx, ia⟩ := i.lst fh
    cases r1
    obtain ⟨its, r, ht, hz⟩ := I5.list hx
    have hlen := r.length
    show wpAny (model T.X.prog T.X.w) T.X.A (subscriptTail e (.Slice none none (some (.UnaryOp .USub (.Constant (.int 1) k p1) p2)) p3) (.ref a) (.ref s4.heap.objs.size)) (EP T.X pins σ Q) T.X.xe { s4 with heap := s4.heap.push { cls := .type "slice", data := .fields #[vl, vu, vs] } }
    refine tail_any (ops := [.ref a, .ref s4.heap.objs.size]) ht.isList.typeIs (PySem.slot_list_getitem.lookup) ?_ (by with_unfolding_all rfl)
    refine wpAny_getItem_list_slice ht.isList (Heap.IsSliceOf.new _ vl vu vs) pl pu ps (by decide) ?_ (by rw [List.size_toArray]; omega)
    rw [PySem.W.krv_pick]
    refine ⟨.ref _, _, I5.laid (t' := s4.toks) (o := .lst xs.reverse) (fun b ob q => Heap.get?_push_of_some _ q) (Nat.le_refl _) ⟨by rw [List.length_reverse]; exact hz, _, 0, r.reverse, Heap.get?_push_size _ rfl⟩, rfl, ?_⟩
    have n := I5.hok.fresh (Nat.le_refl _)
    exact h _ _ _ _ (.newOwn fh n) n (fh.free n) upd_same (.lst ia.reverse)
  | tup ds =>
    obtain ⟨a, xs, rfl, hx, ia⟩ := i.tup fh
    cases r1
    obtain ⟨its, r, ht, hz⟩ := I5.tuple hx
    have hlen := r.length
    cases pl
    cases pu
    show wpAny (model T.X.prog T.X.w) T.X.A (subscriptTail e (.Slice none none (some (.UnaryOp .USub (.Constant (.int 1) k p1) p2)) p3) (.ref a) (.ref s4.heap.objs.size)) (EP T.X pins σ Q) T.X.xe { s4 with heap := s4.heap.push { cls := .type "slice", data := .fields #[.none, .none, vs] } }
    refine tail_any (ops := [.ref a, .ref s4.heap.objs.size]) (IsTup.typeIs ht) (PyProof.Rows.slot_tuple_getitem.lookup) ?_ (by with_unfolding_all rfl)
    refine getItem_tuple_rev ht (Heap.IsSliceOf.new _ .none .none vs) ps ?_ (by rw [List.size_toArray]; omega)
    have n := I5.hok.fresh (Nat.le_refl _)
    refine ⟨.ref _, _, I5.laid (t' := s4.toks) (o := .tup xs.reverse) (fun b ob q => Heap.get?_push_of_some _ q) (Nat.le_refl _) ⟨by rw [List.length_reverse]; exact hz, its.reverse, r.reverse, ?_⟩, rfl, ?_⟩
    · exact ⟨_, Heap.get?_push_size _ rfl, rfl, _, rfl⟩
    · exact h _ _ _ (.new fh n) (.ktup upd_same (ia.reverse.mono (.up (fh.free n)) _))
  | str z =>
    obtain rfl := i.str
    obtain ⟨t, rfl⟩ := r1
    simp only [revF] at h
    split at h
    · rename_i hz
      show wpAny (model T.X.prog T.X.w) T.X.A (subscriptTail e (.Slice none none (some (.UnaryOp .USub (.Constant (.int 1) k p1) p2)) p3) (.str z t) (.ref s4.heap.objs.size)) (EP T.X pins σ Q) T.X.xe { s4 with heap := s4.heap.push { cls := .type "slice", data := .fields #[vl, vu, vs] } }
      refine tail_any (ops := [.str z t, .ref s4.heap.objs.size]) (typeIs_str _ _ _) PySem.F.slot_str_getitem.lookup ?_ (by with_unfolding_all rfl)
      cases pl
      cases pu
      obtain ⟨st, rfl, hst'⟩ := IsPart.raw ps
      obtain ⟨os, hos, hcs, hds⟩ := Heap.IsSliceOf.new s4.heap .none .none (partValue st)
      refine wpAny_getItem_str_slice (l := none) (u := none) (st := st) ⟨os, hos, hcs, hds⟩ (by rw [hst']; rfl) ?_
      unfold sliceMade slicePicked
      rw [hst']
      show Made.post (if ((-1 : Int) == 1 && (Builtin.Str.strSliceIndices none none (-1) z.length).length == z.length) = true then Made.val (.str z t)
        else Made.str ⟨((Builtin.Str.strSliceIndices none none (-1) z.length).filterMap (z.cps[·]?)).toArray⟩) (EP T.X pins σ Q) _
      rw [if_neg (by simp), str_rev]
      refine ⟨?_, .str _, H4, I5.tok _, ⟨_, rfl⟩, h.val fh (.str _)⟩
      show (⟨z.cps.toList.reverse.toArray⟩ : Str).length ≤ sizeLine
      have := le_big hz
      simpa [Str.length] using this
    · exact h.elim
  | _ => exact h.elim
end
end DL

/-! DL22: list comprehensions with two for; all(..), any(..). -/
namespace DL
open PySem L2 PyProof.Rows

/-- the outer loop: each turn runs the inner one -/
def loopL2 (g : D → M Unit) (ct : M Bool) (ci1 : M (List D)) (g1 : D → M Unit) (ct1 : M Bool) (ce : M D) (vs vs1 : List Nat) : List D → List D → M (List D)
  | [], acc, Γ => some (.ok acc, Γ)
  | d :: ds, acc, Γ => match g d Γ with
    | some (.ok _, Γa) => match ct Γa with
      | some (.ok true, Γb) => match ci1 Γb with
        | some (.ok ds1, Γc) => match loopL g1 ct1 ce vs1 ds1 acc (wipeG Γc vs1) with
          | some (.ok acc1, Γd) => loopL2 g ct ci1 g1 ct1 ce vs vs1 ds acc1 (wipeG Γd vs)
          | _ => none
        | _ => none
      | some (.ok false, Γb) => loopL2 g ct ci1 g1 ct1 ce vs vs1 ds acc (wipeG Γb vs)
      | _ => none
    | _ => none
section
variable {g g1 : D → M Unit} {ct ct1 : M Bool} {ci1 : M (List D)} {ce : M D} {vs vs1 : List Nat}
theorem loopL2_cons {d : D} {ds acc : List D} {Γ : List Sl} {p : Except D (List D) × List Sl} (h : loopL2 g ct ci1 g1 ct1 ce vs vs1 (d :: ds) acc Γ = some p) :
    ∃ Γa, g d Γ = some (.ok (), Γa) ∧ ((∃ Γb ds1 Γc acc1 Γd, ct Γa = some (.ok true, Γb) ∧ ci1 Γb = some (.ok ds1, Γc) ∧ loopL g1 ct1 ce vs1 ds1 acc (wipeG Γc vs1) = some (.ok acc1, Γd) ∧ loopL2 g ct ci1 g1 ct1 ce vs vs1 ds acc1 (wipeG Γd vs) = some p) ∨
      ∃ Γb, ct Γa = some (.ok false, Γb) ∧ loopL2 g ct ci1 g1 ct1 ce vs vs1 ds acc (wipeG Γb vs) = some p) := by
  simp only [loopL2] at h
  split at h
  · rename_i u Γa e1
    refine ⟨Γa, e1, ?_⟩
    split at h
    · rename_i Γb e2
      split at h
      · rename_i ds1 Γc e3
        split at h
        · rename_i acc1 Γd e4
          exact .inl ⟨Γb, ds1, Γc, acc1, Γd, e2, e3, e4, h⟩
        · cases h
      · cases h
    · rename_i Γb e2
      exact .inr ⟨Γb, e2, h⟩
    · cases h
  · cases h
end
def lcM2 (g : D → M Unit) (ct : M Bool) (ci1 : M (List D)) (g1 : D → M Unit) (ct1 : M Bool) (ce : M D) (vs vs1 : List Nat) (ds : List D) : M Rf := fun Γ1 => match loopL2 g ct ci1 g1 ct1 ce vs vs1 ds [] (wipeG Γ1 vs) with
  | some (.ok acc, Γ2) => some (.ok (.own (.lst acc)), unwipe Γ1 Γ2 vs)
  | _ => none
def sLc2 (vs vs1 : List Nat) (ci : M (List D)) (g : D → M Unit) (ct : M Bool) (ci1 : M (List D)) (g1 : D → M Unit) (ct1 : M Bool) (ce : M Rf) : M Rf := bnd ci (lcM2 g ct ci1 g1 ct1 (cap ce) vs vs1)
section
variable {T : Tx} {elt tg iter tg1 iter1 : Expr} {ifs ifs1 : List Expr} {scope : Scope} {own : List (Str × Nat)} {pos spos py : Pos} {ci ci1 : M (List D)} {g g1 : D → M Unit} {ct ct1 : M Bool} {ce : M Rf}
theorem lc2_weak {B F0 : Hp} {σ : L2.St} {H : Hp} {Q : VK} {vs vs1 : List Nat} (Tb : Tx) (hK : Tb.X.K = T.X.K) (hcm : Tb.cm = T.cm) (hio' : Tb.io = T.io) (hX : Tb.X.prog = T.X.prog ∧ Tb.X.w = T.X.w) (hio : ∀ v ∈ vs, NoIo T v) (hio1 : ∀ v ∈ vs1, NoIo T v) (hsub : ∀ v ∈ vs1, v ∈ vs)
    (hwalk : ∀ J F ds, Walk Tb J F ds → Walk T J F ds) (h : tS T B F0 (sLc2 vs vs1 ci g ct ci1 g1 ct1 ce) σ H Q) :
    tLc2 (tI T B F0 ci) (fun v σ' H' Q' => ∃ B, tGw Tb B F0 vs g v σ' H' Q') (fun σ' H' Q' => ∃ B, tT Tb B F0 ct σ' H' Q') (fun σ' H' R => ∃ B, tI Tb B F0 ci1 σ' H' R) (fun v σ' H' Q' => ∃ B, tGw Tb B F0 vs1 g1 v σ' H' Q') (fun σ' H' Q' => ∃ B, tT Tb B F0 ct1 σ' H' Q')
      (fun σ' H' Q' => ∃ B, tD Tb B F0 (cap ce) σ' H' Q') vs vs1 σ H Q := by
  obtain ⟨F, Γ, r⟩ := h
  refine ⟨F, Γ, r.bnd.mono fun ds F1 Γ1 H1 q1 S1 r1 J hJ Dd hD => ?_⟩
  have r2 := r1.2
  unfold lcM2 at r2
  rcases e : loopL2 g ct ci1 g1 ct1 (cap ce) vs vs1 ds [] (wipeG Γ1 vs) with _ | ⟨x | acc, Γ2⟩
  · simp only [e] at r2
  · simp only [e] at r2
  simp only [e] at r2
  have hBD : B Dd = none := S1.bh.free hD
  have hF1D : F1 Dd = none := S1.fh.free hD
  have hF0D : F0 Dd = none := S1.f0.free hF1D
  have toB : ∀ {F' : Hp} {Γ' : List Sl} {σ' : L2.St} {H' : Hp} {B' : Hp}, T.Sat B' F0 F' Γ' σ' H' → Tb.Sat B' F0 F' Γ' σ' H' := fun S => by
    show DL.Sat Tb.X.K Tb.cm Tb.io _ _ _ _ _ _
    rw [hK, hcm, hio']
    exact S
  have ofB : ∀ {F' : Hp} {Γ' : List Sl} {σ' : L2.St} {H' : Hp} {B' : Hp}, Tb.Sat B' F0 F' Γ' σ' H' → T.Sat B' F0 F' Γ' σ' H' := fun S => by
    have S' : DL.Sat Tb.X.K Tb.cm Tb.io _ _ _ _ _ _ := S
    rw [hK, hcm, hio'] at S'
    exact S'
  have isB : ∀ {F' : Hp} {v : V} {d : D}, Tb.Is F' v d → T.Is F' v d := fun i => by
    have i' : DL.Is Tb.X.K Tb.cm _ _ _ := i
    rw [hK, hcm] at i'
    exact i'
  have isB' : ∀ {F' : Hp} {v : V} {d : D}, T.Is F' v d → Tb.Is F' v d := fun i => by
    show DL.Is Tb.X.K Tb.cm _ _ _
    rw [hK, hcm]
    exact i
  have noD : ∀ {F' : Hp} {Γ' : List Sl} {σ' : L2.St} {H' : Hp} {o : HO}, T.Sat (upd B Dd o) F0 F' Γ' σ' H' → F' Dd = none := fun {F' Γ' σ' H' o} S => by
    cases z : F' Dd with
    | none => rfl
    | some u =>
      rcases S.nw Dd u z with h | h
      · rw [hF0D] at h; cases h
      · rw [upd_same] at h; cases h
  refine ⟨fun i m H => ∃ F Γ accV accD, Same F1 F ∧ m = ds.length - i ∧ i ≤ ds.length ∧ T.Sat (upd B Dd (.lst accV)) F0 F Γ (wipe σ vs) H ∧ IsAll T.X.K T.cm F accV accD ∧ loopL2 g ct ci1 g1 ct1 (cap ce) vs vs1 (ds.drop i) accD Γ = some (.ok acc, Γ2),
    ⟨ds.length, F1, wipeG Γ1 vs, [], [], .refl _, by simp, Nat.zero_le _, (S1.wipeW hio).side hF1D (.inl hD), .nil, by simpa using e⟩, ?_⟩
  rintro i m H ⟨F, Γ, accV, accD, q, rfl, hi, S, ia, el⟩
  obtain ⟨w1, w2⟩ := hJ i F H q S.fh
  have hD1 : H Dd = some (.lst accV) := S.bh _ _ upd_same
  by_cases hlt : i < ds.length
  · rw [List.drop_eq_getElem_cons hlt] at el
    obtain ⟨go, yl⟩ := w1 ds[i] (by simp [hlt])
    refine .inr ⟨go, fun H' => ∃ F Γ accV accD, Same F1 F ∧ T.Sat (upd B Dd (.lst accV)) F0 F Γ (wipe σ vs) H' ∧ IsAll T.X.K T.cm F accV accD ∧ loopL2 g ct ci1 g1 ct1 (cap ce) vs vs1 (ds.drop (i + 1)) accD Γ = some (.ok acc, Γ2),
      fun H' ⟨F', Γ', aV, aD, h1, h2, h3, h4⟩ => ⟨ds.length - (i + 1), by omega, F', Γ', aV, aD, h1, rfl, hlt, h2, h3, h4⟩, fun x H' hy => ?_⟩
    obtain ⟨F2, t, ix⟩ := yl x H' hy
    have S2 := S.step t
    obtain ⟨Γa, eg, rest⟩ := loopL2_cons el
    refine ⟨upd B Dd (.lst accV), F2, Γ, _, isB' ix, toB S2, ?_⟩
    rw [eg]
    intro F3 H3 σ3 q3 S3 hw3
    rw [wipe_wipe] at hw3
    have S3 := ofB S3
    refine ⟨hw3, upd B Dd (.lst accV), F3, Γa, toB S3, ?_⟩
    rcases rest with ⟨Γb, ds1, Γc, acc1, Γd, et, ei, ey, el'⟩ | ⟨Γb, et, el'⟩
    · rw [et]
      intro F4 H4 q4 S4
      show if true = true then _ else _
      rw [if_pos rfl]
      refine ⟨upd B Dd (.lst accV), F4, Γb, S4, ?_⟩
      rw [ei]
      intro F5 H5 q5 S5 J1 hJ1
      have S5 := ofB S5
      have hJ1 := hwalk _ _ _ hJ1
      have q15 : Same F1 F5 := (((q.trans t.ff).trans q3).trans q4).trans q5
      have ia5 : IsAll T.X.K T.cm F5 accV accD := ia.mono (((t.ff).trans q3).trans (q4.trans q5)) _
      -- the inner loop
      refine ⟨fun j k H => ∃ F Γ aV aD, Same F5 F ∧ k = ds1.length - j ∧ j ≤ ds1.length ∧ T.Sat (upd B Dd (.lst aV)) F0 F Γ (wipe σ3 vs1) H ∧ IsAll T.X.K T.cm F aV aD ∧ loopL g1 ct1 (cap ce) vs1 (ds1.drop j) aD Γ = some (.ok acc1, Γd),
        ⟨ds1.length, F5, wipeG Γc vs1, accV, accD, .refl _, by simp, Nat.zero_le _, S5.wipeW hio1, ia5, by simpa using ey⟩, ?_⟩
      rintro j k H6 ⟨F6, Γ6, aV, aD, q6, rfl, hj, S6, ia6, el6⟩
      obtain ⟨v1, v2⟩ := hJ1 j F6 H6 q6 S6.fh
      by_cases hlt1 : j < ds1.length
      · rw [List.drop_eq_getElem_cons hlt1] at el6
        obtain ⟨go1, yl1⟩ := v1 ds1[j] (by simp [hlt1])
        refine .inr ⟨go1, fun H' => ∃ F Γ aV aD, Same F5 F ∧ T.Sat (upd B Dd (.lst aV)) F0 F Γ (wipe σ3 vs1) H' ∧ IsAll T.X.K T.cm F aV aD ∧ loopL g1 ct1 (cap ce) vs1 (ds1.drop (j + 1)) aD Γ = some (.ok acc1, Γd),
          fun H' ⟨F', Γ', aV, aD, h1, h2, h3, h4⟩ => ⟨ds1.length - (j + 1), by omega, F', Γ', aV, aD, h1, rfl, hlt1, h2, h3, h4⟩, fun x H' hy => ?_⟩
        obtain ⟨F7, t7, ix7⟩ := yl1 x H' hy
        have S7 := S6.step t7
        obtain ⟨Γa1, eg1, rest1⟩ := loopL_cons el6
        refine ⟨upd B Dd (.lst aV), F7, Γ6, _, isB' ix7, toB S7, ?_⟩
        rw [eg1]
        intro F8 H8 σ8 q8 S8 hw8
        rw [wipe_wipe] at hw8
        have S8 := ofB S8
        refine ⟨hw8, upd B Dd (.lst aV), F8, Γa1, toB S8, ?_⟩
        rcases rest1 with ⟨Γb1, y, Γc1, et1, ey1, hz1, el1⟩ | ⟨Γb1, et1, el1⟩
        · rw [et1]
          intro F9 H9 q9 S9
          show if true = true then _ else _
          rw [if_pos rfl]
          refine ⟨upd B Dd (.lst aV), F9, Γb1, S9, ?_⟩
          rw [ey1]
          intro F10 H10 q10 S10 v hv
          have S10 := ofB S10
          have hv := isB hv
          have hF10 := noD S10
          refine ⟨aV, S10.bh _ _ upd_same, by rw [ia6.length]; exact lt_big hz1, F10, wipeG Γc1 vs1, aV ++ [v], aD ++ [y], (((q6.trans t7.ff).trans q8).trans q9).trans q10, ?_, ?_, el1⟩
          · exact (S10.rewipe hio1 hw8).reside hF10 hBD
          · exact (ia6.mono (((t7.ff).trans q8).trans (q9.trans q10)) _).append (.cons hv .nil)
        · rw [et1]
          intro F9 H9 q9 S9
          show if false = true then _ else _
          rw [if_neg (by simp)]
          exact ⟨F9, wipeG Γb1 vs1, aV, aD, ((q6.trans t7.ff).trans q8).trans q9, (ofB S9).rewipe hio1 hw8, ia6.mono ((t7.ff.trans q8).trans q9) _, el1⟩
      · have ed : ds1.drop j = [] := List.drop_eq_nil_of_le (by omega)
        rw [ed] at el6
        simp only [loopL, Option.some.injEq, Prod.mk.injEq, Except.ok.injEq] at el6
        obtain ⟨rfl, rfl⟩ := el6
        refine .inl ⟨v2 (by omega), F6, wipeG Γ6 vs, aV, aD, q15.trans q6, ?_, ia6, el'⟩
        -- the outer names are wiped, too
        have S6' := S6.wipeW hio
        have ew : wipe (wipe σ3 vs1) vs = wipe σ vs := by
          rw [← hw3]
          apply List.ext_getElem?
          intro x
          by_cases hx : x ∈ vs
          · have l1 : (wipe (wipe σ3 vs1) vs).length = (wipe σ3 vs).length := by rw [wipe_length, wipe_length, wipe_length]
            rcases wipe_mem (σ := wipe σ3 vs1) hx with h | h <;> rcases wipe_mem (σ := σ3) hx with h' | h'
            · rw [h, h']
            · have a1 := List.getElem?_eq_none_iff.mp h
              have a2 := (List.getElem?_eq_some_iff.mp h').1
              omega
            · have a1 := List.getElem?_eq_none_iff.mp h'
              have a2 := (List.getElem?_eq_some_iff.mp h).1
              omega
            · rw [h, h']
          · rw [wipe_ne hx, wipe_ne hx, wipe_ne fun z => hx (hsub x z)]
        rw [ew] at S6'
        exact S6'
    · rw [et]
      intro F4 H4 q4 S4
      show if false = true then _ else _
      rw [if_neg (by simp)]
      exact ⟨F4, wipeG Γb vs, accV, accD, ((q.trans t.ff).trans q3).trans q4, (ofB S4).rewipe hio hw3, ia.mono ((t.ff.trans q3).trans q4) _, el'⟩
  · have ed : ds.drop i = [] := List.drop_eq_nil_of_le (by omega)
    rw [ed] at el
    simp only [loopL2, Option.some.injEq, Prod.mk.injEq, Except.ok.injEq] at el
    obtain ⟨rfl, rfl⟩ := el
    refine .inl ⟨w2 (by omega), ?_⟩
    have hFD := noD S
    have SB : T.Sat B F0 F Γ (wipe σ vs) H := S.weakB (.up hBD)
    refine r2 F H q (Sat.unwipe S1 SB q) _ ⟨Dd, .lst accV, rfl, hFD, hBD, hD1, .lst ia, fun j d hj hs => ?_⟩
    rcases unwipe_get hj with ⟨_, k2⟩ | ⟨k1, k2⟩
    · unfold keepD at k2; split at k2 <;> cases k2
    · obtain ⟨a, ho, g1, _, g3, _⟩ := S.ow j d k2
      rw [wipe_ne k1] at g1
      rw [g1] at hs; injection hs with hs; injection hs with hs; injection hs with hs; subst hs
      rw [upd_same] at g3; cases g3
theorem pi_ex {X : Cx} {tg it : Expr} {α : Type} {t : α → TI} (h : ∀ a, PI X tg it (t a)) : PI X tg it (fun σ H R => ∃ a, t a σ H R) := ⟨fun pins s σ H R I ⟨a, q⟩ => (h a).run pins s σ H R I q⟩
theorem re_lc2 {k : Nat} (own : List (Str × Nat)) (vs1 : List Nat) (c : Cok T k) (hi : RI T tg iter ci) (hg : ∀ (s : Shared) (H : Hp) (C : Addr) (cl : List (Str × Addr)) (fp : List Addr), RGw (T.blk s H scope (compEnvC scope cl C T.X.env) fp) (own.map (·.2)) tg g)
    (ht : ∀ (s : Shared) (H : Hp) (C : Addr) (cl : List (Str × Addr)) (fp : List Addr), RTs (T.blk s H scope (compEnvC scope cl C T.X.env) fp) ifs ct) (hi1 : ∀ (s : Shared) (H : Hp) (C : Addr) (cl : List (Str × Addr)) (fp : List Addr), RI (T.blk s H scope (compEnvC scope cl C T.X.env) fp) tg1 iter1 ci1)
    (hg1 : ∀ (s : Shared) (H : Hp) (C : Addr) (cl : List (Str × Addr)) (fp : List Addr), RGw (T.blk s H scope (compEnvC scope cl C T.X.env) fp) vs1 tg1 g1) (ht1 : ∀ (s : Shared) (H : Hp) (C : Addr) (cl : List (Str × Addr)) (fp : List Addr), RTs (T.blk s H scope (compEnvC scope cl C T.X.env) fp) ifs1 ct1)
    (he : ∀ (s : Shared) (H : Hp) (C : Addr) (cl : List (Str × Addr)) (fp : List Addr), RE (T.blk s H scope (compEnvC scope cl C T.X.env) fp) elt ce)
    (ok : blkC T.X.N T.X.env.scope scope own = true := by decide +kernel) (hv : ∀ i ∈ vs1, i ∈ own.map (·.2) := by decide) (hio : ∀ v ∈ own.map (·.2), NoIo T v := by intro v hv; first | exact Or.inl rfl | (refine Or.inr ?_; simp only [List.map_cons, List.map_nil, List.mem_cons, List.not_mem_nil, or_false] at hv; omega))
    (hs : ∀ x, foldedSetIterable iter T.X.env x = pure x := by intro _; rfl) (hs1 : ∀ env x, foldedSetIterable iter1 env x = pure x := by intro _ _; rfl) : RE T (.ListComp elt [⟨tg, iter, ifs, 0⟩, ⟨tg1, iter1, ifs1, 0⟩] scope pos) (sLc2 (own.map (·.2)) vs1 ci g ct ci1 g1 ct1 ce) := fun B F0 =>
  (pe_lc2 c.calm c.nd (hi B F0) (blkOk_by ok) hv (fun s H C cl fp => pg_ex fun B => hg s H C cl fp B F0) (fun s H C cl fp => pts_ex fun B => ht s H C cl fp B F0) (fun s H C cl fp => pi_ex fun B => hi1 s H C cl fp B F0) (fun s H C cl fp => pg_ex fun B => hg1 s H C cl fp B F0)
    (fun s H C cl fp => pts_ex fun B => ht1 s H C cl fp B F0) (fun s H C cl fp => pe_ex fun B => rd_of (he s H C cl fp) B F0) hs hs1).weak fun σ H Q h => lc2_weak (tb T) rfl rfl rfl ⟨rfl, rfl⟩ hio (fun v hv' => hio v (hv v hv')) hv (fun _ _ _ z => z) h
theorem rs_setLc2 {k : Nat} (i : Nat) (own : List (Str × Nat)) (vs1 : List Nat) {y : Str} (c : Cok T k) (hi : RI T tg iter ci) (hg : ∀ (s : Shared) (H : Hp) (C : Addr) (cl : List (Str × Addr)) (fp : List Addr), RGw (T.blk s H scope (compEnvC scope cl C T.X.env) fp) (own.map (·.2)) tg g)
    (ht : ∀ (s : Shared) (H : Hp) (C : Addr) (cl : List (Str × Addr)) (fp : List Addr), RTs (T.blk s H scope (compEnvC scope cl C T.X.env) fp) ifs ct) (hi1 : ∀ (s : Shared) (H : Hp) (C : Addr) (cl : List (Str × Addr)) (fp : List Addr), RI (T.blk s H scope (compEnvC scope cl C T.X.env) fp) tg1 iter1 ci1)
    (hg1 : ∀ (s : Shared) (H : Hp) (C : Addr) (cl : List (Str × Addr)) (fp : List Addr), RGw (T.blk s H scope (compEnvC scope cl C T.X.env) fp) vs1 tg1 g1) (ht1 : ∀ (s : Shared) (H : Hp) (C : Addr) (cl : List (Str × Addr)) (fp : List Addr), RTs (T.blk s H scope (compEnvC scope cl C T.X.env) fp) ifs1 ct1)
    (he : ∀ (s : Shared) (H : Hp) (C : Addr) (cl : List (Str × Addr)) (fp : List Addr), RE (T.blk s H scope (compEnvC scope cl C T.X.env) fp) elt ce)
    (hy : T.X.N[i]? = some y := by rfl) (hyl : T.X.env.scope.names.lookup y = some .local := by rfl) (hsw : swapsWith (.ListComp elt [⟨tg, iter, ifs, 0⟩, ⟨tg1, iter1, ifs1, 0⟩] scope pos) (some (.Name y py)) spos.line T.X.env = pure true := by rfl)
    (ok : blkC T.X.N T.X.env.scope scope own = true := by decide +kernel) (hv : ∀ i ∈ vs1, i ∈ own.map (·.2) := by decide) (hio : ∀ v ∈ own.map (·.2), NoIo T v := by intro v hv; first | exact Or.inl rfl | (refine Or.inr ?_; simp only [List.map_cons, List.map_nil, List.mem_cons, List.not_mem_nil, or_false] at hv; omega))
    (hio' : NoIo T i := by first | exact Or.inl rfl | exact Or.inr (by decide)) (hs : ∀ x, foldedSetIterable iter T.X.env x = pure x := by intro _; rfl) (hs1 : ∀ env x, foldedSetIterable iter1 env x = pure x := by intro _ _; rfl) :
    RS T (.Assign [.Name y py] (.ListComp elt [⟨tg, iter, ifs, 0⟩, ⟨tg1, iter1, ifs1, 0⟩] scope pos) spos) (sSet i (sLc2 (own.map (·.2)) vs1 ci g ct ci1 g1 ct1 ce)) := fun B F0 =>
  (ps_setLc2 c.calm c.nd hy hyl hsw (hi B F0) (blkOk_by ok) hv (fun s H C cl fp => pg_ex fun B => hg s H C cl fp B F0) (fun s H C cl fp => pts_ex fun B => ht s H C cl fp B F0) (fun s H C cl fp => pi_ex fun B => hi1 s H C cl fp B F0) (fun s H C cl fp => pg_ex fun B => hg1 s H C cl fp B F0)
    (fun s H C cl fp => pts_ex fun B => ht1 s H C cl fp B F0) (fun s H C cl fp => pe_ex fun B => rd_of (he s H C cl fp) B F0) hs hs1).weak fun D σ H ⟨F, Γ, r⟩ => lc2_weak (tb T) rfl rfl rfl ⟨rfl, rfl⟩ hio (fun v hv' => hio v (hv v hv')) hv (fun _ _ _ z => z) ⟨F, Γ, r.bnd.run.mono fun r0 F1 Γ1 H1 q1 S1 r1 v hv => by
      obtain ⟨F', Γ', r2⟩ := r1.bnd.stR hio' hv
      exact r2.ret.2⟩
end
/-! ### all(list of bools), any(..) -/
section
variable {T : Tx}
def allF : List D → Option Rf
  | [.lst ds] => (blsD ds).map fun bs => .dat (.bl (bs.all id))
  | _ => none
def anyF : List D → Option Rf
  | [.lst ds] => (blsD ds).map fun bs => .dat (.bl (bs.any id))
  | _ => none
theorem call_allF (hc : T.X.calm = true) : CallD T (.builtin "all") allF := by
  intro pins s σ H vs us Q I r ⟨F, ds, fh, at_, h⟩
  match ds, at_, h with
  | [.lst xs], at_, h =>
    obtain ⟨v, rfl, i⟩ := at_.one
    obtain ⟨a, ws, rfl, g1, g2⟩ := i.rdL fh
    rcases e : blsD xs with _ | ns
    · simp only [allF, e, Option.map_none] at h; exact h.elim
    · simp only [allF, e, Option.map_some] at h
      have ew := blsD_vs e g2
      subst ew
      exact cr_all hc pins s σ H _ us Q I r ⟨a, ns, rfl, g1, h.val fh (.bl _)⟩
theorem call_anyF (hc : T.X.calm = true) : CallD T (.builtin "any") anyF := by
  intro pins s σ H vs us Q I r ⟨F, ds, fh, at_, h⟩
  match ds, at_, h with
  | [.lst xs], at_, h =>
    obtain ⟨v, rfl, i⟩ := at_.one
    obtain ⟨a, ws, rfl, g1, g2⟩ := i.rdL fh
    rcases e : blsD xs with _ | ns
    · simp only [anyF, e, Option.map_none] at h; exact h.elim
    · simp only [anyF, e, Option.map_some] at h
      have ew := blsD_vs e g2
      subst ew
      exact cr_any hc pins s σ H _ us Q I r ⟨a, ns, rfl, g1, h.val fh (.bl _)⟩
end
end DL

/-! DL23: dicts: d[k], d[k] = v, k in d, len, sorted, list. -/
namespace DL
open PySem L2 PyProof.Rows

/-! ### keys as data -/
def atomK : D → Bool
  | .int _ => true
  | .str _ => true
  | _ => false
def tupK : D → Bool
  | .tup ds => ds.all atomK
  | _ => false
def kE0 : D → D → Bool
  | .int i, .int j => decide (i = j)
  | .str x, .str y => decide (x = y)
  | _, _ => false
def kE : D → D → Bool
  | .tup a, .tup b => eqL kE0 a b
  | a, b => kE0 a b
def lkD : List D → List D → D → Option D
  | k :: ks, v :: vs, x => if kE k x then some v else lkD ks vs x
  | _, _, _ => none
def hasD (ks : List D) (x : D) : Bool := ks.any fun k => kE k x
def replV : List D → List D → D → D → List D
  | k :: ks, v :: vs, x, y => (if kE k x then y else v) :: replV ks vs x y
  | _, _, _, _ => []
def ptK (ks : List D) (x : D) : List D := if hasD ks x then ks else ks ++ [x]
def ptV (ks vs : List D) (x y : D) : List D := if hasD ks x then replV ks vs x y else vs ++ [y]
theorem kE_key (a b : Key) : kE (keyD a) (keyD b) = decide (a = b) := by
  rcases a with i | x <;> rcases b with j | y
  · show decide (i = j) = _
    exact decide_eq_decide.mpr ⟨fun h => by rw [h], fun h => Sum.inl.inj h⟩
  · show false = _
    exact (decide_eq_false (by simp)).symm
  · show false = _
    exact (decide_eq_false (by simp)).symm
  · show decide (x = y) = _
    exact decide_eq_decide.mpr ⟨fun h => by rw [h], fun h => Sum.inr.inj h⟩
theorem kE0_key (a b : Key) : kE0 (keyD a) (keyD b) = decide (a = b) := by
  rw [← kE_key]
  rcases a with i | x <;> rcases b with j | y <;> rfl
theorem kE_keys : ∀ a b : List Key, kE (.tup (a.map keyD)) (.tup (b.map keyD)) = decide (a = b)
  | [], [] => rfl
  | [], _ :: _ => by show false = _; simp
  | _ :: _, [] => by show false = _; simp
  | x :: a, y :: b => by
    have ih := kE_keys a b
    show (kE0 (keyD x) (keyD y) && eqL kE0 (a.map keyD) (b.map keyD)) = _
    have ih : eqL kE0 (a.map keyD) (b.map keyD) = decide (a = b) := ih
    rw [kE0_key, ih]
    by_cases h1 : x = y <;> by_cases h2 : a = b <;> simp [h1, h2]
section
variable {K : PySem.W.Frag} {cm : Nat → Addr} {F H : Hp} {κ : Type} [DecidableEq κ] {enc : κ → D}
theorem lk_of (he : ∀ a b, kE (enc a) (enc b) = decide (a = b)) : ∀ {kvs : List (κ × V)} {vs : List D} {k : κ} {d : D}, IsAll K cm F (kvs.map (·.2)) vs → lkD (kvs.map fun p => enc p.1) vs (enc k) = some d → ∃ v, valV kvs k = some v ∧ DL.Is K cm F v d
  | [], vs, k, d, i, h => by cases vs <;> cases h
  | p :: kvs, [], k, d, i, h => by cases h
  | p :: kvs, v :: vs, k, d, i, h => by
    cases i with
    | cons i is =>
      simp only [List.map_cons, lkD, he] at h
      by_cases e : p.1 = k
      · rw [decide_eq_true e, if_pos rfl] at h
        cases h
        exact ⟨p.2, valV_pos e, i⟩
      · rw [decide_eq_false e, if_neg (by simp)] at h
        rw [valV_neg e]
        exact lk_of he is h
theorem lk_none (he : ∀ a b, kE (enc a) (enc b) = decide (a = b)) : ∀ {kvs : List (κ × V)} {vs : List D} {k : κ}, IsAll K cm F (kvs.map (·.2)) vs → (hasD (kvs.map fun p => enc p.1) (enc k) = (valV kvs k).isSome)
  | [], vs, k, i => rfl
  | p :: kvs, vs, k, i => by
    cases vs with
    | nil => cases i
    | cons v vs =>
      cases i with
      | cons i is =>
        have ih := lk_none he (k := k) is
        show (kE (enc p.1) (enc k) || hasD (kvs.map fun p => enc p.1) (enc k)) = _
        rw [he, ih]
        by_cases e : p.1 = k
        · rw [decide_eq_true e, valV_pos e]; rfl
        · rw [decide_eq_false e, valV_neg e]; rfl
theorem any_key (he : ∀ a b, kE (enc a) (enc b) = decide (a = b)) (kvs : List (κ × V)) (k : κ) : (kvs.any fun kv => decide (kv.1 = k)) = hasD (kvs.map fun p => enc p.1) (enc k) := by
  unfold hasD
  rw [List.any_map]
  congr 1
  funext p
  show _ = kE (enc p.1) (enc k)
  rw [he]
theorem repl_of (he : ∀ a b, kE (enc a) (enc b) = decide (a = b)) {v : V} {d : D} {k : κ} (iv : DL.Is K cm F v d) : ∀ {kvs : List (κ × V)} {vs : List D}, IsAll K cm F (kvs.map (·.2)) vs →
    IsAll K cm F ((kvs.map fun kv => if kv.1 = k then (kv.1, v) else kv).map (·.2)) (replV (kvs.map fun p => enc p.1) vs (enc k) d)
  | [], vs, i => by cases vs with
    | nil => exact .nil
    | cons => cases i
  | p :: kvs, vs, i => by
    cases vs with
    | nil => cases i
    | cons w ws =>
      cases i with
      | cons i is =>
        have ih := repl_of (k := k) he iv is
        simp only [List.map_cons, replV, he]
        by_cases e : p.1 = k
        · rw [if_pos e, decide_eq_true e, if_pos rfl]; exact .cons iv ih
        · rw [if_neg e, decide_eq_false e, if_neg (by simp)]; exact .cons i ih
theorem put_of (he : ∀ a b, kE (enc a) (enc b) = decide (a = b)) {kvs : List (κ × V)} {vs : List D} {v : V} {d : D} {k : κ} (iv : DL.Is K cm F v d) (i : IsAll K cm F (kvs.map (·.2)) vs) :
    (putK kvs k v).map (fun p => enc p.1) = ptK (kvs.map fun p => enc p.1) (enc k) ∧ IsAll K cm F ((putK kvs k v).map (·.2)) (ptV (kvs.map fun p => enc p.1) vs (enc k) d) := by
  unfold putK ptK ptV
  rw [any_key he]
  by_cases h : hasD (kvs.map fun p => enc p.1) (enc k) = true
  · rw [if_pos h, if_pos h, if_pos h]
    refine ⟨?_, repl_of he iv i⟩
    rw [List.map_map]
    refine List.map_congr_left fun p _ => ?_
    show enc (if p.1 = k then (p.1, v) else p).1 = enc p.1
    split <;> rfl
  · rw [if_neg h, if_neg h, if_neg h]
    rw [List.map_append, List.map_append]
    exact ⟨rfl, i.append (.cons iv .nil)⟩
/-- an atom is a key -/
theorem atom_key {d : D} (h : atomK d = true) : ∃ κ, d = keyD κ := by
  cases d with
  | int i => exact ⟨.inl i, rfl⟩
  | str x => exact ⟨.inr x, rfl⟩
  | _ => cases h
theorem atoms_keys : ∀ {ds : List D}, ds.all atomK = true → ∃ κs : List Key, ds = κs.map keyD
  | [], _ => ⟨[], rfl⟩
  | d :: ds, h => by
    simp only [List.all_cons, Bool.and_eq_true] at h
    obtain ⟨k, rfl⟩ := atom_key h.1
    obtain ⟨ks, rfl⟩ := atoms_keys h.2
    exact ⟨k :: ks, rfl⟩
theorem is_key {k : Key} {v : V} (h : IsT K cm F H v (keyD k)) : v = kV k := by
  rcases k with i | x
  · exact h.int
  · exact h.str
theorem are_keys : ∀ {ks : List Key} {vs : List V}, IsAll K cm F vs (ks.map keyD) → vs = ks.map kV
  | [], _, h => by cases h; rfl
  | k :: ks, _, h => by
    cases h with
    | cons h hs => rw [is_key (H := F) (.inl h), are_keys hs]; rfl
theorem key_is (k : Key) : DL.Is K cm F (kV k) (keyD k) := by
  rcases k with i | x
  · exact .int i
  · exact .str x
theorem atom_keyD (k : Key) : atomK (keyD k) = true := by rcases k with i | x <;> rfl
end
/-- which dicts a look-up is told for: not empty, its keys of the kind of the key -/
def okGet (ks : List D) (x : D) : Bool := !ks.isEmpty && ((atomK x && ks.all atomK) || (tupK x && ks.all tupK))
section
variable {K : PySem.W.Frag} {cm : Nat → Addr} {F H : Hp}
/-- what a key finds -/
theorem dget_of {v y : V} {ks vs : List D} {x : D} (fh : Same F H) (i : IsT K cm F H v (.dic ks vs)) (iy : IsT K cm F H y x) (ok : okGet ks x = true) : ∃ a o, v = .ref a ∧ DGet H a y o ∧ (hasD ks x = o.isSome) ∧ (∀ d, lkD ks vs x = some d → ∃ r, o = some r ∧ DL.Is K cm F r d) := by
  obtain ⟨a, ho, rfl, ha, hs⟩ := i.dic fh
  unfold okGet at ok
  simp only [Bool.and_eq_true, Bool.or_eq_true, Bool.not_eq_true'] at ok
  obtain ⟨ne, ok⟩ := ok
  cases hs with
  | @dK kvs _ _ hk hv =>
    subst hk
    rcases ok with ⟨h1, h2⟩ | ⟨h1, h2⟩
    · obtain ⟨κ, rfl⟩ := atom_key h1
      obtain rfl := is_key iy
      refine ⟨a, valV kvs κ, rfl, .inl ⟨kvs, κ, ha.rd, rfl, rfl⟩, lk_none kE_key hv, fun d e => ?_⟩
      exact lk_of kE_key hv e
    · cases kvs with
      | nil => cases ne
      | cons p kvs =>
        simp only [List.map_cons, List.all_cons, Bool.and_eq_true] at h2
        have := h2.1
        rcases hp : p.1 with i | x <;> rw [hp] at this <;> cases this
  | @dT kvs _ _ hk hv =>
    subst hk
    rcases ok with ⟨h1, h2⟩ | ⟨h1, h2⟩
    · cases kvs with
      | nil => cases ne
      | cons p kvs =>
        simp only [List.map_cons, List.all_cons, Bool.and_eq_true] at h2
        cases h2.1
    · cases x with
      | tup ds =>
        obtain ⟨κs, rfl⟩ := atoms_keys h1
        obtain ⟨b, ws, rfl, hb, hw⟩ := iy.tupD
        obtain rfl := are_keys hw
        refine ⟨a, valV kvs κs, rfl, .inr ⟨kvs, κs, b, ha.rd, rfl, fh _ _ hb, rfl⟩, lk_none (enc := fun p => D.tup (p.map keyD)) kE_keys hv, fun d e => ?_⟩
        exact lk_of (enc := fun p => D.tup (p.map keyD)) kE_keys hv e
      | _ => cases h1
end
def getD2 : D → D → Option Rf
  | .dic ks vs, x => if okGet ks x then (lkD ks vs x).map .dat else none
  | _, _ => none
def inD2 : D → D → Option Rf
  | x, .dic ks vs => if okGet ks x then some (.dat (.bl (hasD ks x))) else none
  | _, _ => none
def notInD2 : D → D → Option Rf
  | x, .dic ks vs => if okGet ks x then some (.dat (.bl (!hasD ks x))) else none
  | _, _ => none
section
variable {T : Tx} {a b : Expr} {ca cb : M Rf} {pos : Pos} {k : Nat}
theorem tS_mono {B F0 : Hp} {c : M Rf} {σ : L2.St} {H : Hp} {Q Q' : VK} (h : tS T B F0 c σ H Q) (w : ∀ v H', Q v H' → Q' v H') : tS T B F0 c σ H Q' := by
  obtain ⟨F, Γ, r⟩ := h
  exact ⟨F, Γ, r.mono fun r F' Γ' H' _ _ p v hv => w _ _ (p v hv)⟩
theorem units_ok (ck : Cok T k) : T.X.A.units + 1 < cLine := hu_of ck.room
theorem re_dget (ck : Cok T k) (ha : RE T a ca) (hb : RE T b cb) (hs : NoSl b := by exact fun _ _ => rfl) : RE T (.Subscript a b pos) (sBin getD2 ca cb) := fun B F0 =>
  (pe_dget (units_ok ck) (re_opnd ha B F0) (re_opnd hb B F0) hs).weak fun σ H Q h => tS_mono (op_weak h) fun x H1 h1 => tS_mono h1 fun y H2 ⟨F, d1, d2, fh, i1, i2, hr⟩ => by
    cases d1 with
    | dic ks vs =>
      simp only [getD2] at hr
      split at hr
      · rename_i ok
        obtain ⟨p, o, rfl, hg, _, hl⟩ := dget_of fh i1 i2 ok
        rcases e : lkD ks vs d2 with _ | d
        · simp only [e, Option.map_none] at hr; exact hr.elim
        · simp only [e, Option.map_some] at hr
          obtain ⟨r, rfl, ir⟩ := hl d e
          exact ⟨p, r, rfl, hg, hr.val fh ir⟩
      · exact hr.elim
    | _ => exact hr.elim
theorem re_din (ck : Cok T k) (ha : RE T a ca) (hb : RE T b cb) (hm : behindInMarks .In b = false := by first | exact nomark _ | rfl) : RE T (.Compare a [.In] [b] pos) (sBin inD2 ca cb) := fun B F0 =>
  (pe_cmp (pc_din (units_ok ck) (re_opnd ha B F0) (re_opnd hb B F0)) hm).weak fun σ H Q h => tS_mono (op_weak h) fun x H1 h1 => tS_mono h1 fun y H2 ⟨F, d1, d2, fh, i1, i2, hr⟩ => by
    cases d2 with
    | dic ks vs =>
      simp only [inD2] at hr
      split at hr
      · rename_i ok
        obtain ⟨p, o, rfl, hg, hh, _⟩ := dget_of fh i2 i1 ok
        rw [hh] at hr
        exact ⟨p, o, rfl, hg, hr.val fh (.bl _)⟩
      · exact hr.elim
    | _ => cases d1 <;> exact hr.elim
end
/-! ### the empty dict is of both kinds -/
section
variable {X : Cx} {pins : List (Addr × Obj)} {σ : L2.St} {H : Hp} {s : Shared} {a : Addr}
theorem empty_k (I : Inv X pins σ H s) (e : H a = some (.dT [])) : Inv X pins σ (upd H a (.dK [])) s := by
  obtain ⟨z, hd, xs, r, o, es, ep, h1, h2, h3, h4, h5⟩ := (show ObjOk X.prog X.w H s.heap a (.dT []) from I.hok a _ e)
  cases r
  have ee : es = #[] := Array.ext' h4
  subst ee
  exact d_write (t' := s.toks) I (by rw [e]; exact True.intro) (.refl _ _) ⟨o, h1⟩ ⟨Nat.zero_le _, hd, [], .nil, o, #[], ep, h1, h2, h3, fun _ he => by simp at he, Pairs.nil, List.nodup_nil⟩
theorem empty_t (I : Inv X pins σ H s) (e : H a = some (.dK [])) : Inv X pins σ (upd H a (.dT [])) s := by
  obtain ⟨z, hd, vs, r, o, es, ep, h1, h2, h3, h4, h5, h6⟩ := (show ObjOk X.prog X.w H s.heap a (.dK []) from I.hok a _ e)
  cases r
  have ee : es = #[] := by
    apply Array.ext'
    generalize es.toList = l at h5
    cases h5; rfl
  subst ee
  exact d_write (t' := s.toks) I (by rw [e]; exact True.intro) (.refl _ _) ⟨o, h1⟩ ⟨Nat.zero_le _, hd, [], .nil, o, #[], ep, h1, h2, h3, rfl, List.nodup_nil⟩
def Kinds (H : Hp) (a : Addr) (H0 : Hp) : Prop := H0 = H ∨ (H a = some (.dT []) ∧ H0 = upd H a (.dK [])) ∨ (H a = some (.dK []) ∧ H0 = upd H a (.dT []))
def rSetE : TSet := fun o i v H Q => ∃ a H0 H', o = .ref a ∧ Kinds H a H0 ∧ DPut H0 a i v H' ∧ Q H'
theorem set_dictE (hu : X.A.units + 1 < cLine) : PSet X rSetE := by
  intro pins s σ H o i v ov iv u Q I ro ri rv ⟨a, H0, H', eo, hk, g, q⟩
  subst eo
  cases (show ov = Value.ref a from ro)
  have I0 : Inv X pins σ H0 s := by
    rcases hk with rfl | ⟨e, rfl⟩ | ⟨e, rfl⟩
    · exact I
    · exact empty_k I e
    · exact empty_t I e
  exact d_setItem hu I0 g ri rv fun s' I' => ⟨H', I', q⟩
end
/-! ### d[k] = e -/
def okPut (ks : List D) (x : D) : Bool := (atomK x && ks.all atomK) || (tupK x && ks.all tupK)
def putDM : Fm := fun d ds => match d, ds with
  | .dic ks vs, [x, y] => if okPut ks x && decide (ks.length < big) then some (.ok (.dat .non), .dic (ptK ks x) (ptV ks vs x y)) else none
  | _, _ => none
def gDx (a b : M Rf) : D → M Unit := fun d => bnd a fun r => bnd (cap b) fun k => bnd (lendA putDM r [k, d]) fun _ => ret ()
section
variable {K : PySem.W.Frag} {cm : Nat → Addr} {F H : Hp}
/-- what a store makes -/
theorem dput_of {a : Addr} {ho : HO} {ks vs : List D} {x y : D} {u v : V} (fh : Same F H) (ha : H a = some ho) (hs : OwnIs K cm F ho (.dic ks vs)) (iu : DL.Is K cm F u x) (iv : DL.Is K cm F v y) (ok : okPut ks x = true) (hl : ks.length < big) :
    ∃ H0 ho', Kinds H a H0 ∧ DPut H0 a u v (upd H a ho') ∧ OwnIs K cm F ho' (.dic (ptK ks x) (ptV ks vs x y)) := by
  unfold okPut at ok
  simp only [Bool.and_eq_true, Bool.or_eq_true] at ok
  rcases ok with ⟨h1, h2⟩ | ⟨h1, h2⟩
  · obtain ⟨κ, rfl⟩ := atom_key h1
    obtain rfl := is_key (H := H) (.inl iu)
    cases hs with
    | @dK kvs _ _ hk hv =>
      subst hk
      have z := put_of (k := κ) kE_key iv hv
      exact ⟨H, .dK (putK kvs κ v), .inl rfl, .k ha (by rw [List.length_map] at hl; exact lt_big hl), .dK z.1 z.2⟩
    | @dT kvs _ _ hk hv =>
      subst hk
      cases kvs with
      | cons p kvs =>
        simp only [List.map_cons, List.all_cons, Bool.and_eq_true] at h2
        cases h2.1
      | nil =>
        cases hv
        have z := put_of (K := K) (cm := cm) (F := F) (kvs := []) (vs := []) (k := κ) kE_key iv .nil
        refine ⟨upd H a (.dK []), .dK (putK [] κ v), .inr (.inl ⟨ha, rfl⟩), ?_, .dK z.1 z.2⟩
        rw [← upd_upd (H := H) (a := a) (o := .dK []) (u := .dK (putK [] κ v))]
        exact .k upd_same (by show 0 < sizeLine; rw [big_eq]; decide)
  · cases x with
    | tup ds =>
      obtain ⟨κs, rfl⟩ := atoms_keys h1
      obtain ⟨b, ws, rfl, hb, hw⟩ := IsT.tupD (H := H) (.inl iu)
      obtain rfl := are_keys hw
      have hb' := fh _ _ hb
      cases hs with
      | @dT kvs _ _ hk hv =>
        subst hk
        have z := put_of (enc := fun p => D.tup (p.map keyD)) (k := κs) kE_keys iv hv
        exact ⟨H, .dT (putK kvs κs v), .inl rfl, .t ha hb' (by rw [List.length_map] at hl; exact lt_big hl), .dT z.1 z.2⟩
      | @dK kvs _ _ hk hv =>
        subst hk
        cases kvs with
        | cons p kvs =>
          simp only [List.map_cons, List.all_cons, Bool.and_eq_true] at h2
          have := h2.1
          rcases hp : p.1 with i | x <;> rw [hp] at this <;> cases this
        | nil =>
          cases hv
          have z := put_of (K := K) (cm := cm) (F := F) (kvs := []) (vs := []) (enc := fun p => D.tup (p.map keyD)) (k := κs) kE_keys iv .nil
          refine ⟨upd H a (.dT []), .dT (putK [] κs v), .inr (.inr ⟨ha, rfl⟩), ?_, .dT z.1 z.2⟩
          rw [← upd_upd (H := H) (a := a) (o := .dT []) (u := .dT (putK [] κs v))]
          refine .t upd_same ?_ (by show 0 < sizeLine; rw [big_eq]; decide)
          rw [upd_ne (fun z => by rw [z, ha] at hb'; cases hb')]
          exact hb'
    | _ => cases h1
end
section
variable {T : Tx} {o i : Expr} {co ci : M Rf} {pos : Pos} {k : Nat}
theorem rg_dx (ck : Cok T k) (ho : RE T o co) (hi : RE T i ci) (ha : ∀ v, assign (.Subscript o i pos) T.X.env v = (do
      let ov ← holding [v] (eval o T.X.env)
      let iv ← holding [v, ov] (eval i T.X.env)
      standAt pos
      holding [v, ov, iv] (setItem ov iv v)
      release [v, ov, iv] []) := by intro _; rfl) : RG T (.Subscript o i pos) (gDx co ci) := fun B F0 =>
  (pg_sub (ho B F0) (rd_of hi B F0) (set_dictE (units_ok ck)) ha).weak fun v σ H Q ⟨F, Γ, d, iv, r⟩ => ⟨F, Γ, r.bnd.run.mono fun r0 F1 Γ1 H1 q1 S1 r1 u hu => ⟨F1, Γ1, r1.bnd.run.mono fun x F2 Γ2 H2 q2 S2 r2 z hz => by
    cases r0 with
    | dat d => exact r2.bnd.2.elim
    | own d => exact r2.bnd.2.elim
    | slot j =>
    have hu2 : IsRf T.X.K T.cm B F2 Γ2 σ H2 u (.slot j) := ⟨hu.1, by
      have r3 := r2.bnd
      obtain ⟨_, r3⟩ := r3
      unfold lendA lendX at r3
      simp only at r3
      rcases q : Γ2[j]? with _ | sl
      · simp only [q] at r3
      · cases sl with
        | un => simp only [q] at r3
        | dat d => simp only [q] at r3
        | own d => exact ⟨d, rfl⟩⟩
    obtain ⟨a, ho, d0, r1, d1, i, rfl, h2, h4, h5, hφ, kk⟩ := r2.bnd.lendA hu2
    cases d0 with
    | dic ks vs =>
      simp only [putDM] at hφ
      split at hφ
      · rename_i ok
        simp only [Bool.and_eq_true, decide_eq_true_eq] at ok
        simp only [Option.some.injEq, Prod.mk.injEq] at hφ
        obtain ⟨rfl, rfl⟩ := hφ
        obtain ⟨H0, ho', hk, hp, hw⟩ := dput_of S2.fh h4 h5 hz ((iv.mono q1 _).mono q2 _) ok.1 ok.2
        exact ⟨a, H0, _, rfl, hk, hp, (kk _ rfl _ _ (step_upd S2.fh h2) upd_same hw).ret.2⟩
      · cases hφ
    | _ => cases hφ⟩⟩
end
/-! ### len, list, of a dict -/
section
variable {X : Cx} {pins : List (Addr × Obj)} {σ : L2.St} {H : Hp} {s : Shared} {a : Addr}
/-- a call that makes a list of an empty dict -/
theorem empty_call {t : Sem Value} {E : Value → Shared → Prop} {Q : VK} (I : Inv X pins σ H s) (e : H a = some (.dT []))
    (h : Inv X pins σ (upd H a (.dK [])) s → wpAny (model X.prog X.w) X.A t (fun u s' => ∃ v H', Inv X pins σ H' s' ∧ RelV v u ∧ ∃ p, v = .ref p ∧ upd H a (.dK []) p = none ∧ H' = upd (upd H a (.dK [])) p (.lst [])) E s)
    (q : ∀ p, H p = none → Q (.ref p) (upd H p (.lst []))) : wpAny (model X.prog X.w) X.A t (fun u s' => ∃ v H', Inv X pins σ H' s' ∧ RelV v u ∧ Q v H') E s := by
  refine thn (h (empty_k I e)) fun u s' ⟨v, H', I', rv, p, ev, hp, eH⟩ => ?_
  have ne : p ≠ a := fun z => by rw [z, upd_same] at hp; cases hp
  rw [upd_ne ne] at hp
  have g : H' a = some (.dK []) := by rw [eH, upd_ne (Ne.symm ne), upd_same]
  refine ⟨v, _, empty_t I' g, rv, ?_⟩
  have eq : upd H' a (.dT []) = upd H p (.lst []) := by
    rw [eH]
    funext x
    by_cases h1 : x = a
    · rw [h1, upd_same, upd_ne (Ne.symm ne), e]
    · rw [upd_ne h1]
      by_cases h2 : x = p
      · rw [h2, upd_same, upd_same]
      · rw [upd_ne h2, upd_ne h1, upd_ne h2]
  rw [eq, ev]
  exact q p hp
end
section
variable {T : Tx}
def listD2 : List D → Option Rf
  | [.dic ks vs] => if ks.all atomK then some (.own (.lst ks)) else none
  | _ => none
theorem call_listD2 (hc : T.X.calm = true) : CallD T (.type "list") listD2 := by
  intro pins s σ H vs us Q I r ⟨F, ds, fh, at_, h⟩
  match ds, at_, h with
  | [.dic ks ws], at_, h =>
    obtain ⟨v, rfl, i⟩ := at_.one
    simp only [listD2] at h
    split at h
    · rename_i ok
      obtain ⟨a, ho, rfl, ha, hs⟩ := i.dic fh
      cases hs with
      | @dK kvs _ _ hk hv =>
        subst hk
        refine call_listD hc pins s σ H _ us Q I r ⟨a, kvs, rfl, ha.rd, fun p n => ?_⟩
        refine h.newLst fh ?_ p n
        clear h ok ha hv i at_
        induction kvs with
        | nil => exact .nil
        | cons p kvs ih =>
          exact .cons (key_is _) ih
      | @dT kvs _ _ hk hv =>
        subst hk
        cases kvs with
        | cons p kvs =>
          simp only [List.map_cons, List.all_cons, Bool.and_eq_true] at ok
          cases ok.1
        | nil =>
          have q : ∀ p, H p = none → Q (.ref p) (upd H p (.lst [])) := fun p n => h.newLst fh .nil p n
          exact empty_call I (ha.flat rfl) (fun I0 => call_listD hc pins s σ _ _ us _ I0 r ⟨a, [], rfl, .inl upd_same, fun p n => ⟨p, rfl, n, rfl⟩⟩) q
    · exact h.elim
/-! ### sorted(d), the keys texts -/
def isStrD : D → Bool
  | .str _ => true
  | _ => false
theorem pw_rising : ∀ (l : List Str) (p : Str), risingS p l = true → (p :: l).Pairwise fun a b => a.cps.toList ≤ b.cps.toList
  | [], p, _ => by simp
  | x :: r, p, h => by
    have h' : (!PySem.Spec.ltCps x.cps.toList p.cps.toList && risingS x r) = true := h
    simp only [Bool.and_eq_true, Bool.not_eq_true', ltCps_eq, decide_eq_false_iff_not] at h'
    have ih := pw_rising r x h'.2
    have hx : p.cps.toList ≤ x.cps.toList := h'.1
    refine List.pairwise_cons.mpr ⟨fun y hy => ?_, ih⟩
    rcases List.mem_cons.mp hy with rfl | hy
    · exact hx
    · exact List.le_trans hx ((List.pairwise_cons.mp ih).1 y hy)
theorem pw_sorted {l : List Str} (h : sortedS l = true) : l.Pairwise fun a b => a.cps.toList ≤ b.cps.toList := by
  cases l with
  | nil => exact .nil
  | cons x r => exact pw_rising r x h
theorem le_strs (x y : Str) : PySem.W.dataLe false py (.str x) (.str y) = decide (x.cps.toList ≤ y.cps.toList) := by
  show (!(decide (y.cps.toList < x.cps.toList) || (!decide (x.cps.toList < y.cps.toList) && false))) = _
  by_cases h : y.cps.toList < x.cps.toList
  · rw [decide_eq_true h, decide_eq_false (show ¬ x.cps.toList ≤ y.cps.toList from fun z => z h)]; rfl
  · rw [decide_eq_false h, decide_eq_true (show x.cps.toList ≤ y.cps.toList from h)]; simp
def strLe (x y : Str) : Bool := decide (x.cps.toList ≤ y.cps.toList)
theorem sortD_strs (xs : List Str) : sortD (xs.map .str) = (xs.mergeSort strLe).map .str := (List.map_mergeSort fun a _ b _ => (le_strs a b).symm).symm
theorem sort_one {xs ys : List Str} (hp : ys.Perm xs) (hs : sortedS ys = true) : ys = xs.mergeSort strLe := by
  have h1 := pw_sorted hs
  have h2 := List.pairwise_mergeSort (le := strLe) (fun a b c h1 h2 => decide_eq_true (List.le_trans (of_decide_eq_true h1) (of_decide_eq_true h2))) (fun a b => by
    have := List.le_total a.cps.toList b.cps.toList
    simp only [strLe, Bool.or_eq_true, decide_eq_true_eq]; exact this) xs
  refine List.Perm.eq_of_pairwise (fun a b _ _ h1 h2 => ?_) h1 (h2.imp fun h => of_decide_eq_true h) (hp.trans (List.mergeSort_perm xs strLe).symm)
  have e := List.le_antisymm h1 h2
  cases a; cases b
  congr 1
  exact Array.ext' e
def sortedD2 : List D → Option Rf
  | [.dic ks vs] => if ks.all isStrD && decide (ks.length < 64) then some (.own (.lst (sortD ks))) else none
  | _ => none
theorem call_sortedD2 (hc : T.X.calm = true) : CallD T (.builtin "sorted") sortedD2 := by
  intro pins s σ H vs us Q I r ⟨F, ds, fh, at_, h⟩
  match ds, at_, h with
  | [.dic ks ws], at_, h =>
    obtain ⟨v, rfl, i⟩ := at_.one
    simp only [sortedD2] at h
    split at h
    · rename_i ok
      simp only [Bool.and_eq_true, decide_eq_true_eq] at ok
      obtain ⟨al, h64⟩ := ok
      obtain ⟨a, ho, rfl, ha, hs⟩ := i.dic fh
      cases hs with
      | @dK kvs _ _ hk hv =>
        have key : ∃ ss : List Str, kvs.map (·.1) = ss.map Sum.inr ∧ ks = ss.map .str := by
          rw [← hk] at al
          clear h i at_ ha hv h64
          subst hk
          induction kvs with
          | nil => exact ⟨[], rfl, rfl⟩
          | cons p kvs ih =>
            simp only [List.map_cons, List.all_cons, Bool.and_eq_true] at al
            obtain ⟨ss, e1, e2⟩ := ih al.2
            rcases hp : p.1 with i | x
            · have := al.1
              rw [hp] at this
              cases this
            · exact ⟨x :: ss, by rw [List.map_cons, List.map_cons, hp, e1], by rw [List.map_cons, List.map_cons, hp, e2]; rfl⟩
        obtain ⟨ss, e1, rfl⟩ := key
        refine call_sortedD hc pins s σ H _ us Q I r ⟨a, kvs, ss, rfl, ha.rd, e1, by rw [List.length_map] at h64; exact h64, fun ys p hp hs n => ?_⟩
        rw [sortD_strs, ← sort_one hp hs] at h
        refine h.newLst fh ?_ p n
        clear h hs hp
        induction ys with
        | nil => exact .nil
        | cons y ys ih => exact .cons (.str y) ih
      | @dT kvs _ _ hk hv =>
        subst hk
        cases kvs with
        | cons p kvs =>
          simp only [List.map_cons, List.all_cons, Bool.and_eq_true] at al
          cases al.1
        | nil =>
          have q : ∀ p, H p = none → Q (.ref p) (upd H p (.lst [])) := fun p n => h.newLst fh (by simp [sortD]; exact .nil) p n
          refine empty_call I (ha.flat rfl) (fun I0 => call_sortedD hc pins s σ _ _ us _ I0 r ⟨a, [], [], rfl, .inl upd_same, rfl, by show 0 < 64; decide, fun ys p hp hs n => ⟨p, rfl, n, ?_⟩⟩) q
          rw [List.perm_nil.mp hp]
          rfl
    · exact h.elim
end
end DL

/-! DL24: dict comprehensions, the keys atoms or tuples of atoms. -/
namespace DL
open PySem PySem.Spec L2 PyProof.Rows

section
variable {X : Cx} {pins : List (Addr × Obj)} {σ : L2.St} {H H0 H' : Hp} {s : Shared} {a : Addr} {y v : V} {u r : Value} {E : Value → Shared → Prop}
/-- a comprehension's store -/
theorem d_dictSetE {Q : Unit → Shared → Prop} (hu : X.A.units + 1 < cLine) (I : Inv X pins σ H s) (hk : Kinds H a H0) (g : DPut H0 a y v H') (ry : RelV y u) (rv : RelV v r) (h : ∀ s', Inv X pins σ H' s' → Q () s') :
    wpAny (model X.prog X.w) X.A (dictSet a u r) Q E s := by
  have I0 : Inv X pins σ H0 s := by
    rcases hk with rfl | ⟨e, rfl⟩ | ⟨e, rfl⟩
    · exact I
    · exact empty_k I e
    · exact empty_t I e
  rcases g with ⟨kvs, k, e, ey, l, eH⟩ | ⟨kvs, k, b, e, ey, eb, l, eH⟩
  · subst ey eH
    exact d_dictSet I0 e l ry rv h
  · subst ey eH
    cases (show u = Value.ref b from ry)
    obtain ⟨z, hd, xs, rel, dd⟩ := dt_of I0.hok e
    have hz : xs.length ≤ sizeLine := by rw [← Paired.length rel]; exact z
    have hl := length_putK kvs k v
    refine wpAny_dictSet_heap (hsz := hz) (by first | exact hu | exact Nat.lt_of_succ_lt hu) (key_of I0.hok eb) dd fun h' dd' same => h _ ?_
    obtain ⟨q, es, ep, hq, h2, h3, h4, _, h5⟩ := dd'
    refine d_write I0 (by rw [e]; exact True.intro) same ⟨q, hq⟩ ⟨by omega, hd, _, (rel.put k eb rv).keeps fun c ys ec => ?_, q, es, ep, hq, h2, h3, h4, h5⟩
    rw [upd_ne (ne_of ec e fun z => nomatch z)]
    exact ec
end
/-- {k: v for target in iter if ..}: D0 the new dict -/
def tDg (wi : TI) (g : TG) (tt : TT) (tk tv : TE) (vs : List Nat) : TE := fun σ H Q => wi σ H fun J H1 => ∀ D0, H1 D0 = none →
  ∃ W : Nat → Nat → Hp → Prop, (∃ m, W 0 m (upd H1 D0 (.dK []))) ∧ ∀ i m H, W i m H → (J.stop i H ∧ Q (.ref D0) H) ∨
    (J.go i H ∧ ∃ Nx : Hp → Prop, (∀ H', Nx H' → ∃ m', m' < m ∧ W (i + 1) m' H') ∧ ∀ x H', J.yld i H x H' → g x (wipe σ vs) H' fun σ2 H2 => wipe σ2 vs = wipe σ vs ∧ tt σ2 H2 fun b H3 =>
      if b = true then tk σ2 H3 fun y H4 => tv σ2 H4 fun z H5 => ∃ K0 H6, Kinds H5 D0 K0 ∧ DPut K0 D0 y z H6 ∧ Nx H6 else Nx H3)
section
variable {X : Cx} {kx vx tg iter : Expr} {ifs : List Expr} {scope : Scope} {own : List (Str × Nat)} {pos : Pos} {wi : TI} {g : TG} {tt : TT} {tk tv : TE}
/-- the readings of a block: target, tests, key, value -/
structure BlkR (X : Cx) (scope : Scope) (tg : Expr) (ifs : List Expr) (kx vx : Expr) (g : TG) (tt : TT) (tk tv : TE) : Prop where
  tg : ∀ (s : Shared) (H : Hp) (C : Addr) (cl : List (Str × Addr)) (fp : List Addr), PG (X.blk s H scope (compEnvC scope cl C X.env) fp) tg g
  ts : ∀ (s : Shared) (H : Hp) (C : Addr) (cl : List (Str × Addr)) (fp : List Addr), PTs (X.blk s H scope (compEnvC scope cl C X.env) fp) ifs tt
  kx : ∀ (s : Shared) (H : Hp) (C : Addr) (cl : List (Str × Addr)) (fp : List Addr), PE (X.blk s H scope (compEnvC scope cl C X.env) fp) kx tk
  vx : ∀ (s : Shared) (H : Hp) (C : Addr) (cl : List (Str × Addr)) (fp : List Addr), PE (X.blk s H scope (compEnvC scope cl C X.env) fp) vx tv
theorem pe_dg (hu : X.A.units + 1 < cLine) (hc : X.calm = true) (hN : X.N.Nodup) (hi : PI X tg iter wi) (ok : BlkOk X.N X.env.scope scope own) (R : BlkR X scope tg ifs kx vx g tt tk tv) (hs : ∀ x, foldedSetIterable iter X.env x = pure x := by intro _; rfl) :
    PE X (.DictComp kx vx [⟨tg, iter, ifs, 0⟩] scope pos) (tDg wi g tt tk tv (own.map (·.2))) := by
  refine ⟨fun pins s σ H Q I hyp => ?_⟩
  rw [arm_eval_DictComp]
  have caught : ∀ y ∈ scope.names, y.2 = .free → ∃ c, X.env.cells.lookup y.1 = some c := fun y hy e => (ok.free y hy e).elim (fun k => I.ok.has _ (.inl k)) fun k => I.ok.has _ (.inr k)
  refine wpAny_comprehension_free (use := none) rfl hs (closure_ok caught) ok.kind (fun y hy e => by rw [ok.uniq y hy, e]) (thn (hi.run pins s σ H _ I hyp) fun xv sa walked => thn walked fun itv sb ⟨it, fp, tn, J, Hb, e, Ib, T, stb, fb, q⟩ => ?_)
  subst e
  refine wpAny_newObj_type (newEnv_comp ?_)
  -- the new dict stands at the next place
  obtain ⟨D0, eD⟩ : ∃ D0, D0 = sb.heap.objs.size := ⟨_, rfl⟩
  have free : Hb D0 = none := Ib.hok.fresh (Nat.le_of_eq eD.symm)
  obtain ⟨W, ⟨m0, w0⟩, turn⟩ := q D0 free
  obtain ⟨sc, esc⟩ : ∃ sc : Shared, sc = { sb with heap := sb.heap.push { cls := .type "dict", data := .dict #[] } } := ⟨_, rfl⟩
  have hsc : sc.heap = sb.heap.push { cls := .type "dict", data := .dict #[] } := by rw [esc]
  have Ic : Inv X pins σ (upd Hb D0 (.dK [])) sc := by
    rw [esc, eD]
    exact Ib.laid (t' := sb.toks) (fun b o e => Heap.get?_push_of_some _ e) (Nat.le_refl _) (dk_empty sb.heap Ib.big)
  have old : ∀ b ∈ fp, b < sb.heap.objs.size := fun b hb => let ⟨o, e, _⟩ := T.obj _ _ stb b hb; Heap.lt_size e
  have ne0 : ∀ b ∈ fp, b ≠ D0 := fun b hb => by rw [eD]; exact Nat.ne_of_lt (old b hb)
  have fc : ∀ b ∈ fp, FpOk X pins (upd Hb D0 (.dK [])) b ∧ b < sc.heap.objs.size := fun b hb =>
    ⟨⟨by rw [upd_ne (ne0 b hb)]; exact (fb b hb).1, (fb b hb).2⟩, by rw [hsc, Heap.size_push]; exact Nat.lt_succ_of_lt (old b hb)⟩
  have stc : tn 0 sc.heap := T.keep _ _ _ stb fun b _ o e => by rw [hsc]; exact Heap.get?_push_of_some _ e
  have Id := block_start Ic ok hN fc
  obtain ⟨pt, pk, pv, pg⟩ := And.intro (R.ts sc (upd Hb D0 (.dK [])) sc.heap.objs.size (cellsFrom (sc.heap.objs.size + 1) scope.names (cloFrom X.env.cells scope.names [])) fp)
    (And.intro (R.kx sc (upd Hb D0 (.dK [])) sc.heap.objs.size (cellsFrom (sc.heap.objs.size + 1) scope.names (cloFrom X.env.cells scope.names [])) fp)
    (And.intro (R.vx sc (upd Hb D0 (.dK [])) sc.heap.objs.size (cellsFrom (sc.heap.objs.size + 1) scope.names (cloFrom X.env.cells scope.names [])) fp) (R.tg sc (upd Hb D0 (.dK [])) sc.heap.objs.size (cellsFrom (sc.heap.objs.size + 1) scope.names (cloFrom X.env.cells scope.names [])) fp)))
  rw [← eD, ← esc]
  show codeAny _ _ (.compStart (.DictComp kx vx [⟨tg, iter, ifs, 0⟩] scope pos) 0 (.ref it) (.ref D0) (compEnvC scope (cellsFrom (sc.heap.objs.size + 1) scope.names (cloFrom X.env.cells scope.names [])) sc.heap.objs.size X.env)) _ { sc with heap := pushCells (sc.heap.push { cls := .type "dict", data := .dict #[] }) scope.names }
  have bare : ∀ b ∈ fp, (upd Hb D0 (.dK [])) b = none := fun b hb => (fc b hb).1.1
  generalize hce : compEnvC scope (cellsFrom (sc.heap.objs.size + 1) scope.names (cloFrom X.env.cells scope.names [])) sc.heap.objs.size X.env = ce at Id pt pk pv pg ⊢
  have cl : ce.locals = sc.heap.objs.size := by subst hce; rfl
  generalize upd Hb D0 (.dK []) = Hc at Ic Id pt pk pv pg w0 bare fc
  generalize hsd : ({ sc with heap := pushCells (sc.heap.push { cls := .type "dict", data := .dict #[] }) scope.names } : Shared) = sd at Id ⊢
  have std : tn 0 sd.heap := T.keep _ _ _ stc fun b _ o e => by rw [← hsd]; exact pushCells_keeps _ _ _ _ (Heap.get?_push_of_some _ e)
  have cells : ∀ {σ' : L2.St} {H' : Hp} {s' : Shared}, Inv (X.blk sc Hc scope ce fp) [] σ' H' s' → (∀ b ∈ fp, H' b = none) → ∀ b ∈ fp, FpOk (X.blk sc Hc scope ce fp) [] H' b := fun {σ' H' s'} I' n b hb =>
    ⟨n b hb, (I'.ok.exf b hb).1, I'.ok.exfs b hb, .inl hb, fun x c e => (I'.ok.exf b hb).2 x c e, fun p hp => absurd (show p ∈ ([] : List (Addr × Obj)) ++ [] from hp) (by simp)⟩
  refine codeAny_compStart_dict ?loop (T.self X.A 0 _ _ _ std ?loop)
  refine compLoop_anyD (fun n s' => ∃ i H', Inv (X.blk sc Hc scope ce fp) [] (wipe σ (own.map (·.2))) H' s' ∧ tn i s'.heap ∧ (∀ b ∈ fp, H' b = none) ∧ W i n H') ?_ m0 ⟨0, Hc, Id, std, bare, w0⟩
  rintro n se ⟨i, He, Ie, ste, bare', we⟩
  rcases turn i n He we with ⟨stop, fine⟩ | ⟨go, Nx, next, step⟩
  · refine thnF (T.done (X.blk sc Hc scope ce fp) rfl rfl rfl hc i [] se _ He (fun _ _ => False) Ie (cells Ie bare') ste stop) fun r sf ⟨hr, If⟩ => ?_
    subst hr
    -- back in the def's context
    have Ig : Inv X pins σ He sf := Ic.call' (ch := fp) If.os If.base If.hok If.bare fun b hb => ⟨(fc b hb).1.2.2.2.1, (fc b hb).1.2.1, (fc b hb).1.2.2.2.2.1, (fc b hb).1.2.2.2.2.2⟩
    have nC : He sc.heap.objs.size = none := by have z : He ce.locals = none := If.free; rwa [cl] at z
    obtain ⟨m, hm, _⟩ := If.loc
    have hm' : sf.heap.Ns sc.heap.objs.size m := by have z : sf.heap.Ns ce.locals m := hm; rwa [cl] at z
    obtain ⟨f0, f1, f2, f3, f4, f5⟩ := Ic.fpOk (Nat.le_refl _) (show Hc sc.heap.objs.size = none from Ic.hok.fresh (Nat.le_refl _))
    exact ⟨m, hm', fun h'' same => ⟨.ref D0, He, Ig.turned (t' := sf.toks) (fun b o hb e => (same.2 b hb).trans e) nC f1 f3 f4 f5, rfl, fine⟩⟩
  · refine thnF (T.item (X.blk sc Hc scope ce fp) rfl rfl rfl hc i [] se _ He (fun _ _ => False) Ie (cells Ie bare') ste go) fun r sf ⟨u, hr, hf⟩ => ?_
    subst hr
    refine thnF hf fun _ sg ⟨x, Hg, Ig, rg, yg, stg, bareg⟩ => ?_
    refine thnF (pg.run _ sg _ Hg x u _ (Ig.pinned (cells Ig bareg) (T.obj _ _ stg)) rg (step x Hg yg)) fun _ sh ⟨σh, Hh, Ih, wh, qh⟩ => ?_
    refine thnF (pt.run _ sh σh Hh _ Ih qh) fun b si ⟨Hi, Ii, qi⟩ => ?_
    have fin : ∀ {s' : Shared} {H' : Hp}, Inv (X.blk sc Hc scope ce fp) ([] ++ pinsAt fp sg.heap) σh H' s' → Nx H' → ∃ m, m < n ∧ ∃ i H', Inv (X.blk sc Hc scope ce fp) [] (wipe σ (own.map (·.2))) H' s' ∧ tn i s'.heap ∧ (∀ b ∈ fp, H' b = none) ∧ W i m H' := fun {s' H'} I' nx => by
      obtain ⟨m', less, w'⟩ := next H' nx
      have pinned : ∀ b ∈ fp, ∀ o, sg.heap.get? b = some o → s'.heap.get? b = some o ∧ H' b = none := fun b hb o e =>
        let z := I'.pin (b, o) (List.mem_append_right _ (List.mem_append_right _ (mem_pinsAt hb e)))
        ⟨z.1, z.2.1⟩
      refine ⟨m', less, i + 1, H', (I'.unpinned (pins := [])).weak (by rw [← wh, wipe_length]) (fun j v e => by rw [← wh] at e; exact (wipe_some e).1), T.keep _ _ _ stg fun b hb o e => (pinned b hb o e).1, fun b hb => ?_, w'⟩
      obtain ⟨o, e, _⟩ := T.obj _ _ stg b hb
      exact (pinned b hb o e).2
    cases b with
    | false =>
      rw [if_neg (by simp)] at qi ⊢
      exact fin Ii qi
    | true =>
      rw [if_pos rfl] at qi ⊢
      refine thnF (pk.run _ si σh Hi _ Ii qi) fun z sj ⟨yk, Hj, Ij, rj, qj⟩ => thnF (pv.run _ sj σh Hj _ Ij qj) fun z2 sl ⟨yv, Hl, Il, rl, K0, H6, hk, hp, nx⟩ => ?_
      exact d_dictSetE (X := X.blk sc Hc scope ce fp) hu Il hk hp rj rl fun sm Im => fin Im nx
end
/-! ### .. on data -/
def loopDc (g : D → M Unit) (ct : M Bool) (ck cv : M D) (vs : List Nat) : List D → List D → List D → M (List D × List D)
  | [], ks, ws, Γ => some (.ok (ks, ws), Γ)
  | d :: ds, ks, ws, Γ => match g d Γ with
    | some (.ok _, Γa) => match ct Γa with
      | some (.ok true, Γb) => match ck Γb with
        | some (.ok x, Γc) => match cv Γc with
          | some (.ok y, Γd) => if okPut ks x && decide (ks.length < big) then loopDc g ct ck cv vs ds (ptK ks x) (ptV ks ws x y) (wipeG Γd vs) else none
          | _ => none
        | _ => none
      | some (.ok false, Γb) => loopDc g ct ck cv vs ds ks ws (wipeG Γb vs)
      | _ => none
    | _ => none
theorem loopDc_cons {g : D → M Unit} {ct : M Bool} {ck cv : M D} {vs : List Nat} {d : D} {ds ks ws : List D} {Γ : List Sl} {p : Except D (List D × List D) × List Sl} (h : loopDc g ct ck cv vs (d :: ds) ks ws Γ = some p) :
    ∃ Γa, g d Γ = some (.ok (), Γa) ∧ ((∃ Γb x Γc y Γd, ct Γa = some (.ok true, Γb) ∧ ck Γb = some (.ok x, Γc) ∧ cv Γc = some (.ok y, Γd) ∧ okPut ks x = true ∧ ks.length < big ∧ loopDc g ct ck cv vs ds (ptK ks x) (ptV ks ws x y) (wipeG Γd vs) = some p) ∨
      ∃ Γb, ct Γa = some (.ok false, Γb) ∧ loopDc g ct ck cv vs ds ks ws (wipeG Γb vs) = some p) := by
  simp only [loopDc] at h
  split at h
  · rename_i u Γa e1
    refine ⟨Γa, e1, ?_⟩
    split at h
    · rename_i Γb e2
      split at h
      · rename_i x Γc e3
        split at h
        · rename_i y Γd e4
          split at h
          · rename_i hz
            simp only [Bool.and_eq_true, decide_eq_true_eq] at hz
            exact .inl ⟨Γb, x, Γc, y, Γd, e2, e3, e4, hz.1, hz.2, h⟩
          · cases h
        · cases h
      · cases h
    · rename_i Γb e2
      exact .inr ⟨Γb, e2, h⟩
    · cases h
  · cases h
def dcM (g : D → M Unit) (ct : M Bool) (ck cv : M D) (vs : List Nat) (ds : List D) : M Rf := fun Γ1 => match loopDc g ct ck cv vs ds [] [] (wipeG Γ1 vs) with
  | some (.ok (ks, ws), Γ2) => some (.ok (.own (.dic ks ws)), unwipe Γ1 Γ2 vs)
  | _ => none
def sDc (vs : List Nat) (ci : M (List D)) (g : D → M Unit) (ct : M Bool) (ck cv : M Rf) : M Rf := bnd ci (dcM g ct (cap ck) (cap cv) vs)
section
variable {T : Tx} {kx vx tg iter : Expr} {ifs : List Expr} {scope : Scope} {pos : Pos} {ci : M (List D)} {g : D → M Unit} {ct : M Bool} {ck cv : M Rf}
theorem dg_weak {B F0 : Hp} {σ : L2.St} {H : Hp} {Q : VK} {vs : List Nat} (hio : ∀ v ∈ vs, NoIo T v) (h : tS T B F0 (sDc vs ci g ct ck cv) σ H Q) :
    tDg (tI T B F0 ci) (fun v σ' H' Q' => ∃ B, tGw (tb T) B F0 vs g v σ' H' Q') (fun σ' H' Q' => ∃ B, tT (tb T) B F0 ct σ' H' Q') (fun σ' H' Q' => ∃ B, tD (tb T) B F0 (cap ck) σ' H' Q') (fun σ' H' Q' => ∃ B, tD (tb T) B F0 (cap cv) σ' H' Q') vs σ H Q := by
  obtain ⟨F, Γ, r⟩ := h
  refine ⟨F, Γ, r.bnd.mono fun ds F1 Γ1 H1 q1 S1 r1 J hJ Dd hD => ?_⟩
  have r2 := r1.2
  unfold dcM at r2
  rcases e : loopDc g ct (cap ck) (cap cv) vs ds [] [] (wipeG Γ1 vs) with _ | ⟨x | ⟨ksF, wsF⟩, Γ2⟩
  · simp only [e] at r2
  · simp only [e] at r2
  simp only [e] at r2
  have hBD : B Dd = none := S1.bh.free hD
  have hF1D : F1 Dd = none := S1.fh.free hD
  have hF0D : F0 Dd = none := S1.f0.free hF1D
  have noD : ∀ {F' : Hp} {Γ' : List Sl} {σ' : L2.St} {H' : Hp} {o : HO}, T.Sat (upd B Dd o) F0 F' Γ' σ' H' → F' Dd = none := fun {F' Γ' σ' H' o} S => by
    cases z : F' Dd with
    | none => rfl
    | some u =>
      rcases S.nw Dd u z with h | h
      · rw [hF0D] at h; cases h
      · rw [upd_same] at h; cases h
  refine ⟨fun i m H => ∃ F Γ ho ks ws, Same F1 F ∧ m = ds.length - i ∧ i ≤ ds.length ∧ T.Sat (upd B Dd ho) F0 F Γ (wipe σ vs) H ∧ OwnIs T.X.K T.cm F ho (.dic ks ws) ∧ loopDc g ct (cap ck) (cap cv) vs (ds.drop i) ks ws Γ = some (.ok (ksF, wsF), Γ2),
    ⟨ds.length, F1, wipeG Γ1 vs, .dK [], [], [], .refl _, by simp, Nat.zero_le _, (S1.wipeW hio).side hF1D (.inl hD), .dK rfl .nil, by simpa using e⟩, ?_⟩
  rintro i m H ⟨F, Γ, ho, ks, ws, q, rfl, hi, S, ia, el⟩
  obtain ⟨w1, w2⟩ := hJ i F H q S.fh
  have hD1 : H Dd = some ho := S.bh _ _ upd_same
  by_cases hlt : i < ds.length
  · rw [List.drop_eq_getElem_cons hlt] at el
    obtain ⟨go, yl⟩ := w1 ds[i] (by simp [hlt])
    refine .inr ⟨go, fun H' => ∃ F Γ ho ks ws, Same F1 F ∧ T.Sat (upd B Dd ho) F0 F Γ (wipe σ vs) H' ∧ OwnIs T.X.K T.cm F ho (.dic ks ws) ∧ loopDc g ct (cap ck) (cap cv) vs (ds.drop (i + 1)) ks ws Γ = some (.ok (ksF, wsF), Γ2),
      fun H' ⟨F', Γ', o', a1, a2, h1, h2, h3, h4⟩ => ⟨ds.length - (i + 1), by omega, F', Γ', o', a1, a2, h1, rfl, hlt, h2, h3, h4⟩, fun x H' hy => ?_⟩
    obtain ⟨F2, t, ix⟩ := yl x H' hy
    have S2 := S.step t
    obtain ⟨Γa, eg, rest⟩ := loopDc_cons el
    refine ⟨upd B Dd ho, F2, Γ, _, ix, S2, ?_⟩
    rw [eg]
    intro F3 H3 σ3 q3 S3 hw3
    rw [wipe_wipe] at hw3
    refine ⟨hw3, upd B Dd ho, F3, Γa, S3, ?_⟩
    rcases rest with ⟨Γb, kd, Γc, vd, Γd, et, ek, ev, hok, hz, el'⟩ | ⟨Γb, et, el'⟩
    · rw [et]
      intro F4 H4 q4 S4
      show if true = true then _ else _
      rw [if_pos rfl]
      refine ⟨upd B Dd ho, F4, Γb, S4, ?_⟩
      rw [ek]
      intro F5 H5 q5 S5 kv hkv
      refine ⟨upd B Dd ho, F5, Γc, S5, ?_⟩
      rw [ev]
      intro F6 H6 q6 S6 vv hvv
      have hF6 := noD S6
      have q26 : Same F F6 := ((((t.ff).trans q3).trans q4).trans q5).trans q6
      obtain ⟨K0, ho', hk, hp, hw⟩ := dput_of S6.fh (S6.bh _ _ upd_same) (ia.mono q26) (hkv.mono q6 _) hvv hok hz
      exact ⟨K0, _, hk, hp, F6, wipeG Γd vs, ho', ptK ks kd, ptV ks ws kd vd, q.trans q26, (S6.rewipe hio hw3).reside hF6 hBD, hw, el'⟩
    · rw [et]
      intro F4 H4 q4 S4
      show if false = true then _ else _
      rw [if_neg (by simp)]
      exact ⟨F4, wipeG Γb vs, ho, ks, ws, ((q.trans t.ff).trans q3).trans q4, S4.rewipe hio hw3, ia.mono ((t.ff.trans q3).trans q4), el'⟩
  · have ed : ds.drop i = [] := List.drop_eq_nil_of_le (by omega)
    rw [ed] at el
    simp only [loopDc, Option.some.injEq, Prod.mk.injEq, Except.ok.injEq] at el
    obtain ⟨⟨rfl, rfl⟩, rfl⟩ := el
    refine .inl ⟨w2 (by omega), ?_⟩
    have hFD := noD S
    have SB : T.Sat B F0 F Γ (wipe σ vs) H := S.weakB (.up hBD)
    refine r2 F H q (Sat.unwipe S1 SB q) _ ⟨Dd, ho, rfl, hFD, hBD, hD1, ia, fun j d hj hs => ?_⟩
    rcases unwipe_get hj with ⟨_, k2⟩ | ⟨k1, k2⟩
    · unfold keepD at k2; split at k2 <;> cases k2
    · obtain ⟨a, ho, g1, _, g3, _⟩ := S.ow j d k2
      rw [wipe_ne k1] at g1
      rw [g1] at hs; injection hs with hs; injection hs with hs; injection hs with hs; subst hs
      rw [upd_same] at g3; cases g3
theorem re_dc {k : Nat} (own : List (Str × Nat)) (c : Cok T k) (hi : RI T tg iter ci) (hg : ∀ (s : Shared) (H : Hp) (C : Addr) (cl : List (Str × Addr)) (fp : List Addr), RGw (T.blk s H scope (compEnvC scope cl C T.X.env) fp) (own.map (·.2)) tg g)
    (ht : ∀ (s : Shared) (H : Hp) (C : Addr) (cl : List (Str × Addr)) (fp : List Addr), RTs (T.blk s H scope (compEnvC scope cl C T.X.env) fp) ifs ct) (hk : ∀ (s : Shared) (H : Hp) (C : Addr) (cl : List (Str × Addr)) (fp : List Addr), RE (T.blk s H scope (compEnvC scope cl C T.X.env) fp) kx ck)
    (hv : ∀ (s : Shared) (H : Hp) (C : Addr) (cl : List (Str × Addr)) (fp : List Addr), RE (T.blk s H scope (compEnvC scope cl C T.X.env) fp) vx cv)
    (ok : blkC T.X.N T.X.env.scope scope own = true := by decide +kernel) (hio : ∀ v ∈ own.map (·.2), NoIo T v := by intro v hv; first | exact Or.inl rfl | (refine Or.inr ?_; simp only [List.map_cons, List.map_nil, List.mem_cons, List.not_mem_nil, or_false] at hv; omega))
    (hs : ∀ x, foldedSetIterable iter T.X.env x = pure x := by intro _; rfl) : RE T (.DictComp kx vx [⟨tg, iter, ifs, 0⟩] scope pos) (sDc (own.map (·.2)) ci g ct ck cv) := fun B F0 =>
  (pe_dg (units_ok c) c.calm c.nd (hi B F0) (blkOk_by ok) ⟨fun s H C cl fp => pg_ex fun B => hg s H C cl fp B F0, fun s H C cl fp => pts_ex fun B => ht s H C cl fp B F0, fun s H C cl fp => pe_ex fun B => rd_of (hk s H C cl fp) B F0, fun s H C cl fp => pe_ex fun B => rd_of (hv s H C cl fp) B F0⟩ hs).weak fun σ H Q h => dg_weak hio h
end
end DL

/-! DL25: for x in [fresh objects]: each is the loop's own. -/
namespace DL
open PySem L2 PyProof.Rows
def ownO (c : M Rf) : M D := bnd c fun r => match r with
  | .own d => ret d
  | _ => fail
theorem ownO_ok {c : M Rf} {Γ Γ' : List Sl} {d : D} (h : ownO c Γ = some (.ok d, Γ')) : c Γ = some (.ok (.own d), Γ') := by
  unfold ownO at h
  rcases e : c Γ with _ | ⟨x | r, Γ1⟩
  · rw [bnd_none e] at h; cases h
  · rw [bnd_err e] at h; cases h
  · rw [bnd_ok e] at h
    cases r with
    | own y => cases h; rfl
    | dat y => cases h
    | slot y => cases h
def lcO (g : D → M Unit) (ct : M Bool) (ce : M D) (vs : List Nat) (ds : List D) : M (List D) := fun Γ1 => match loopL g ct ce vs ds [] (wipeG Γ1 vs) with
  | some (.ok acc, Γ2) => some (.ok acc, unwipe Γ1 Γ2 vs)
  | _ => none
def sLcO (vs : List Nat) (ci : M (List D)) (g : D → M Unit) (ct : M Bool) (ce : M Rf) : M (List D) := bnd ci (lcO g ct (ownO ce) vs)
section
variable {K : PySem.W.Frag} {cm : Nat → Addr} {io : Option Addr} {B B1 F0 F1 F2 : Hp} {Γ1 Γ2 : List Sl} {σ : L2.St} {H1 H2 : Hp} {vs : List Nat}
theorem Sat.unwipe2 (S1 : Sat K cm io B1 F0 F1 Γ1 σ H1) (S2 : Sat K cm io B F0 F2 Γ2 (wipe σ vs) H2) (q : Same F1 F2) : Sat K cm io B F0 F2 (DL.unwipe Γ1 Γ2 vs) σ H2 where
  fh := S2.fh
  bh := S2.bh
  f0 := S2.f0
  nw := S2.nw
  len := by rw [unwipe_len, S2.len, wipe_length]
  dt := fun i d h => by
    rcases unwipe_get h with ⟨h1, h2⟩ | ⟨h1, h2⟩
    · unfold keepD at h2
      split at h2
      · rename_i d' e
        injection h2 with h2; subst h2
        obtain ⟨v, g1, g2⟩ := S1.dt i d e
        exact ⟨v, g1, g2.mono q _⟩
      · cases h2
    · obtain ⟨v, g1, g2⟩ := S2.dt i d h2
      exact ⟨v, by rw [← wipe_ne h1]; exact g1, g2⟩
  ow := fun i d h => by
    rcases unwipe_get h with ⟨h1, h2⟩ | ⟨h1, h2⟩
    · unfold keepD at h2; split at h2 <;> cases h2
    · obtain ⟨a, ho, g1, g2⟩ := S2.ow i d h2
      exact ⟨a, ho, by rw [← wipe_ne h1]; exact g1, g2⟩
  ap := fun i j d e a h1 h2 h3 h4 => by
    rcases unwipe_get h1 with ⟨_, k2⟩ | ⟨k1, k2⟩
    · unfold keepD at k2; split at k2 <;> cases k2
    · rcases unwipe_get h2 with ⟨_, m2⟩ | ⟨m1, m2⟩
      · unfold keepD at m2; split at m2 <;> cases m2
      · exact S2.ap i j d e a k2 m2 (by rw [wipe_ne k1]; exact h3) (by rw [wipe_ne m1]; exact h4)
  ioA := S1.ioA
end
theorem RunS.strB {T : Tx} {B B' F0 F : Hp} {Γ : List Sl} {σ : L2.St} {H : Hp} {α : Type} {c : M α} {P : α → Hp → List Sl → L2.St → Hp → Prop} (r : RunS T B F0 c F Γ σ H P) (S : T.Sat B' F0 F Γ σ H) (q : Same B B') : RunS T B' F0 c F Γ σ H P := by
  obtain ⟨_, r⟩ := r
  refine ⟨S, ?_⟩
  rcases e : c Γ with _ | ⟨x | a, Γ'⟩
  · rw [e] at r; exact r
  · rw [e] at r
    exact fun F' H' σ' cls dx q' S' i => r F' H' σ' cls dx q' (S'.weakB q) i
  · rw [e] at r
    exact fun F' H' σ' q' S' => r F' H' σ' q' (S'.weakB q)
theorem IsRf.weakB {K : PySem.W.Frag} {cm : Nat → Addr} {B B' F : Hp} {Γ : List Sl} {σ : L2.St} {H : Hp} {v : V} {r : Rf} (h : IsRf K cm B' F Γ σ H v r) (q : Same B B') : IsRf K cm B F Γ σ H v r := by
  cases r with
  | dat d => exact h
  | slot i => exact h
  | own d =>
    obtain ⟨a, ho, h1, h2, h3, h4⟩ := h
    exact ⟨a, ho, h1, h2, q.free h3, h4⟩
/-- without the object at a -/
def dropA (B : Hp) (a : Addr) : Hp := fun p => if p = a then none else B p
theorem dropA_same (B : Hp) (a : Addr) : Same (dropA B a) B := fun p o e => by
  unfold dropA at e
  split at e
  · cases e
  · exact e
theorem dropA_at (B : Hp) (a : Addr) : dropA B a a = none := if_pos rfl
theorem dropA_ne {B : Hp} {a p : Addr} (h : p ≠ a) : dropA B a p = B p := if_neg h
theorem upd_comm {B : Hp} {a d : Addr} {x y : HO} (h : a ≠ d) : upd (upd B d y) a x = upd (upd B a x) d y := by
  funext p
  by_cases h1 : p = a
  · subst h1; rw [upd_same, upd_ne h, upd_same]
  · by_cases h2 : p = d
    · subst h2; rw [upd_ne h1, upd_same, upd_same]
    · rw [upd_ne h1, upd_ne h2, upd_ne h2, upd_ne h1]
theorem upd_id {B : Hp} {a : Addr} {x : HO} (h : B a = some x) : upd B a x = B := by
  funext p
  by_cases h1 : p = a
  · subst h1; rw [upd_same, h]
  · rw [upd_ne h1]
theorem same_upd {B B' : Hp} {d : Addr} {x : HO} (q : Same B B') : Same (upd B d x) (upd B' d x) := fun p o e => by
  by_cases h : p = d
  · subst h; rw [upd_same] at e ⊢; exact e
  · rw [upd_ne h] at e ⊢; exact q p o e
section
variable {T : Tx} {elt tg iter : Expr} {ifs : List Expr} {scope : Scope} {own : List (Str × Nat)} {body : List Stmt} {pos spos py : Pos} {ci : M (List D)} {g : D → M Unit} {ct : M Bool} {ce : M Rf} {cb : M Fl}
/-- the objects k, k + 1, .. wait -/
def Wait (T : Tx) (B B0 F0 F : Hp) (as : List Addr) (ds : List D) (k : Nat) : Prop := ∀ j a d, k ≤ j → as[j]? = some a → ds[j]? = some d → F0 a = none ∧ B a = none ∧ ∃ ho, B0 a = some ho ∧ OwnIs T.X.K T.cm F ho d
theorem Wait.mono {B B0 F0 F F' : Hp} {as : List Addr} {ds : List D} {k : Nat} (h : Wait T B B0 F0 F as ds k) (q : Same F F') : Wait T B B0 F0 F' as ds k := fun j a d hj ha hd => by
  obtain ⟨h1, h2, ho, h3, h4⟩ := h j a d hj ha hd
  exact ⟨h1, h2, ho, h3, h4.mono q⟩
theorem forO_loop {B F0 : Hp} {D' : Ends} {i : Nat} {acc : List D} {as : List Addr} {Dd : Addr} (hio : NoIo T i) (hl : as.length = acc.length) (hn : as.Nodup) (hDa : Dd ∉ as) (hBD : B Dd = none) {σ : L2.St} {H : Hp}
    (h : ∃ F Γ B0, Same B B0 ∧ B0 Dd = none ∧ T.Sat (upd B0 Dd (.lst (as.map V.ref))) F0 F Γ σ H ∧ Wait T B B0 F0 F as acc 0 ∧ RunS T B F0 (loopF (gOwn i) cb acc) F Γ σ H (fin T B D')) :
    ∃ W : Nat → Nat → L2.St → Hp → Prop, (∃ m, W 0 m σ H) ∧ ∀ k m σ H, W k m σ H → ((Itl T.X.K Dd).stop k H ∧ D'.nx σ H) ∨ ((Itl T.X.K Dd).go k H ∧ ∃ N : L2.St → Hp → Prop, (∀ σ' H', N σ' H' → ∃ m', m' < m ∧ W (k + 1) m' σ' H') ∧
      ∀ x H', (Itl T.X.K Dd).yld k H x H' → gName i x σ H' fun σ2 H2 => ∃ B, tSt T B F0 cb { D' with nx := N, ct := N, bk := D'.nx } σ2 H2) := by
  obtain ⟨F, Γ, B0, q0, hD0, S, wt, r⟩ := h
  refine ⟨fun k m σ H => ∃ F Γ B0, m = acc.length - k ∧ k ≤ acc.length ∧ Same B B0 ∧ B0 Dd = none ∧ T.Sat (upd B0 Dd (.lst (as.map V.ref))) F0 F Γ σ H ∧ Wait T B B0 F0 F as acc k ∧ RunS T B F0 (loopF (gOwn i) cb (acc.drop k)) F Γ σ H (fin T B D'),
    ⟨acc.length, F, Γ, B0, rfl, Nat.zero_le _, q0, hD0, S, wt, by simpa using r⟩, ?_⟩
  rintro k m σ H ⟨F, Γ, B0, rfl, hk, q0, hD0, S, wt, r⟩
  have hs : SqL T.X.K H Dd (as.map V.ref) := .inl (.of (S.bh _ _ upd_same))
  by_cases hlt : k < acc.length
  · have ha : as[k]? = some (as[k]'(by omega)) := List.getElem?_eq_getElem _
    have hd : acc[k]? = some acc[k] := List.getElem?_eq_getElem _
    generalize as[k]'(by omega) = a at ha
    obtain ⟨n0, nB, ho, hB0, hO⟩ := wt k a acc[k] (Nat.le_refl _) ha hd
    have haD : a ≠ Dd := fun z => hDa (z ▸ List.mem_of_getElem? ha)
    have hxa : (as.map V.ref)[k]? = some (.ref a) := by rw [List.getElem?_map, ha]; rfl
    rw [List.drop_eq_getElem_cons hlt] at r
    refine .inr ⟨⟨as.map V.ref, .ref a, hs, hxa⟩, fun σ' H' => ∃ F Γ B0, Same B B0 ∧ B0 Dd = none ∧ T.Sat (upd B0 Dd (.lst (as.map V.ref))) F0 F Γ σ' H' ∧ Wait T B B0 F0 F as acc (k + 1) ∧ RunS T B F0 (loopF (gOwn i) cb (acc.drop (k + 1))) F Γ σ' H' (fin T B D'),
      fun σ' H' ⟨F', Γ', B', h1, h2, h3, h4, h5⟩ => ⟨acc.length - (k + 1), by omega, F', Γ', B', rfl, hlt, h1, h2, h3, h4, h5⟩, fun x H2 hy => ?_⟩
    obtain ⟨rfl, hy⟩ := hy
    have hx : x = .ref a := by
      have := hy _ hs
      rw [hxa] at this
      exact (Option.some.inj this).symm
    subst hx
    -- the object leaves the frame
    obtain ⟨Bx, eBx⟩ : ∃ Bx, Bx = upd (dropA B0 a) Dd (.lst (as.map V.ref)) := ⟨_, rfl⟩
    have qx : Same Bx (upd B0 Dd (.lst (as.map V.ref))) := by rw [eBx]; exact same_upd (dropA_same B0 a)
    have Sx : T.Sat Bx F0 F Γ σ H2 := S.weakB qx
    have qB : Same B Bx := fun p o e => by
      have e1 : p ≠ a := fun z => by rw [z, nB] at e; cases e
      have e2 : p ≠ Dd := fun z => by rw [z, hBD] at e; cases e
      rw [eBx, upd_ne e2, dropA_ne e1]
      exact q0 p o e
    have hBxa : Bx a = none := by rw [eBx, upd_ne haD, dropA_at]
    have hBig : upd B0 Dd (.lst (as.map V.ref)) a = some ho := by rw [upd_ne haD]; exact hB0
    have hFa : F a = none := by
      cases z : F a with
      | none => rfl
      | some u =>
        rcases S.nw a u z with h | h
        · rw [n0] at h; cases h
        · rw [hBig] at h; cases h
    have hHa : H2 a = some ho := S.bh _ _ hBig
    have hu : ∀ (j : Nat) (e : D), Γ[j]? = some (.own e) → σ[j]? ≠ some (some (.ref a)) := fun j e h1 h2 => by
      obtain ⟨b, _, g1, _, g3, _⟩ := S.ow j e h1
      rw [g1] at h2; injection h2 with h2; injection h2 with h2; injection h2 with h2; subst h2
      rw [hBig] at g3; cases g3
    have rf : IsRf T.X.K T.cm Bx F Γ σ H2 (.ref a) (.own acc[k]) := ⟨a, ho, rfl, hFa, hBxa, hHa, hO, hu⟩
    obtain ⟨_, rg⟩ := r.bnd.gOwn hio (rf.weakB qB)
    have Sg : T.Sat Bx F0 F (Γ.set i (.own acc[k])) (σ.set i (some (.ref a))) H2 := Sx.setOwn hio hFa hBxa hHa hO hu
    refine ⟨Bx, F, Γ.set i (.own acc[k]), (rg.bnd.strB Sg qB).mono fun f F4 Γ4 σ4 H4 q4 S4 r4 => ?_⟩
    have wt2 : Wait T B (dropA B0 a) F0 F4 as acc (k + 1) := fun j b d hj hb hdj => by
      obtain ⟨w1, w2, ho', w3, w4⟩ := wt j b d (by omega) hb hdj
      have hne : b ≠ a := fun z => by
        subst z
        have := (List.getElem?_inj (by rw [hl]; exact hlt) hn).mp (ha.trans hb.symm)
        omega
      exact ⟨w1, w2, ho', by rw [dropA_ne hne]; exact w3, w4.mono q4⟩
    have q02 : Same B (dropA B0 a) := fun p o e => by
      have e1 : p ≠ a := fun z => by rw [z, nB] at e; cases e
      rw [dropA_ne e1]
      exact q0 p o e
    have hD2 : dropA B0 a Dd = none := by rw [dropA_ne (fun z => haD z.symm)]; exact hD0
    rw [eBx] at S4
    cases f with
    | nx => exact ⟨F4, Γ4, dropA B0 a, q02, hD2, S4, wt2, r4⟩
    | ct => exact ⟨F4, Γ4, dropA B0 a, q02, hD2, S4, wt2, r4⟩
    | bk => exact r4.ret.2
    | rt r0 => exact fun v hv => r4.ret.2 v (hv.weakB qB)
  · have e : acc.drop k = [] := List.drop_eq_nil_of_le (by omega)
    rw [e] at r
    exact .inl ⟨⟨as.map V.ref, hs, by rw [List.length_map]; omega⟩, r.ret.2⟩
theorem forO_weak {B F0 : Hp} {σ : L2.St} {H : Hp} {D' : Ends} {vs : List Nat} {i : Nat} (Tb : Tx) (hK : Tb.X.K = T.X.K) (hcm : Tb.cm = T.cm) (hio' : Tb.io = T.io) (hio : ∀ v ∈ vs, NoIo T v) (hii : NoIo T i) (h : tSt T B F0 (sFor (sLcO vs ci g ct ce) (gOwn i) cb) D' σ H) :
    tFor (iList T.X.K (tLc (tI T B F0 ci) (fun v σ' H' Q' => ∃ B, tGw Tb B F0 vs g v σ' H' Q') (fun σ' H' Q' => ∃ B, tT Tb B F0 ct σ' H' Q') (fun σ' H' Q' => ∃ B, tS Tb B F0 ce σ' H' Q') vs)) (gName i) (fun D σ H => ∃ B, tSt T B F0 cb D σ H) D' σ H := by
  obtain ⟨F, Γ, r⟩ := h
  refine ⟨F, Γ, r.bnd.bnd.run.mono fun ds F1 Γ1 H1 q1 S1 r1 J hJ Dd hD => ?_⟩
  have r2 := r1.2
  unfold lcO at r2
  rcases e : loopL g ct (ownO ce) vs ds [] (wipeG Γ1 vs) with _ | ⟨x | acc, Γ2⟩
  · simp only [e] at r2
  · simp only [e] at r2
  simp only [e] at r2
  have hBD : B Dd = none := S1.bh.free hD
  have hF1D : F1 Dd = none := S1.fh.free hD
  have hF0D : F0 Dd = none := S1.f0.free hF1D
  have toB : ∀ {F' : Hp} {Γ' : List Sl} {σ' : L2.St} {H' : Hp} {B' : Hp}, T.Sat B' F0 F' Γ' σ' H' → Tb.Sat B' F0 F' Γ' σ' H' := fun S => by
    show DL.Sat Tb.X.K Tb.cm Tb.io _ _ _ _ _ _
    rw [hK, hcm, hio']
    exact S
  have ofB : ∀ {F' : Hp} {Γ' : List Sl} {σ' : L2.St} {H' : Hp} {B' : Hp}, Tb.Sat B' F0 F' Γ' σ' H' → T.Sat B' F0 F' Γ' σ' H' := fun S => by
    have S' : DL.Sat Tb.X.K Tb.cm Tb.io _ _ _ _ _ _ := S
    rw [hK, hcm, hio'] at S'
    exact S'
  have isB' : ∀ {F' : Hp} {v : V} {d : D}, T.Is F' v d → Tb.Is F' v d := fun i => by
    show DL.Is Tb.X.K Tb.cm _ _ _
    rw [hK, hcm]
    exact i
  have noD : ∀ {F' B0 : Hp} {Γ' : List Sl} {σ' : L2.St} {H' : Hp} {o : HO}, T.Sat (upd B0 Dd o) F0 F' Γ' σ' H' → F' Dd = none := fun {F' B0 Γ' σ' H' o} S => by
    cases z : F' Dd with
    | none => rfl
    | some u =>
      rcases S.nw Dd u z with h | h
      · rw [hF0D] at h; cases h
      · rw [upd_same] at h; cases h
  refine ⟨fun i m H => ∃ F Γ B0 as accD, Same F1 F ∧ m = ds.length - i ∧ i ≤ ds.length ∧ Same B B0 ∧ B0 Dd = none ∧ T.Sat (upd B0 Dd (.lst (as.map V.ref))) F0 F Γ (wipe σ vs) H ∧ Wait T B B0 F0 F as accD 0 ∧ as.length = accD.length ∧ as.Nodup ∧ Dd ∉ as ∧ loopL g ct (ownO ce) vs (ds.drop i) accD Γ = some (.ok acc, Γ2),
    ⟨ds.length, F1, wipeG Γ1 vs, B, [], [], .refl _, by simp, Nat.zero_le _, .refl _, hBD, (S1.wipeW hio).side hF1D (.inl hD), fun j a d _ ha _ => by simp at ha, rfl, .nil, by simp, by simpa using e⟩, ?_⟩
  rintro i' m H ⟨F, Γ, B0, as, accD, q, rfl, hi, q0, hD0, S, wt, hlen, hnod, hDa, el⟩
  obtain ⟨w1, w2⟩ := hJ i' F H q S.fh
  have hD1 : H Dd = some (.lst (as.map V.ref)) := S.bh _ _ upd_same
  by_cases hlt : i' < ds.length
  · rw [List.drop_eq_getElem_cons hlt] at el
    obtain ⟨go, yl⟩ := w1 ds[i'] (by simp [hlt])
    refine .inr ⟨go, fun H' => ∃ F Γ B0 as accD, Same F1 F ∧ Same B B0 ∧ B0 Dd = none ∧ T.Sat (upd B0 Dd (.lst (as.map V.ref))) F0 F Γ (wipe σ vs) H' ∧ Wait T B B0 F0 F as accD 0 ∧ as.length = accD.length ∧ as.Nodup ∧ Dd ∉ as ∧ loopL g ct (ownO ce) vs (ds.drop (i' + 1)) accD Γ = some (.ok acc, Γ2),
      fun H' ⟨F', Γ', B', as', aD, h1, h2, h3, h4, h5, h6, h7, h8, h9⟩ => ⟨ds.length - (i' + 1), by omega, F', Γ', B', as', aD, h1, rfl, hlt, h2, h3, h4, h5, h6, h7, h8, h9⟩, fun x H' hy => ?_⟩
    obtain ⟨F2, t, ix⟩ := yl x H' hy
    have S2 := S.step t
    obtain ⟨Γa, eg, rest⟩ := loopL_cons el
    refine ⟨upd B0 Dd (.lst (as.map V.ref)), F2, Γ, _, isB' ix, toB S2, ?_⟩
    rw [eg]
    intro F3 H3 σ3 q3 S3 hw3
    rw [wipe_wipe] at hw3
    have S3 := ofB S3
    refine ⟨hw3, upd B0 Dd (.lst (as.map V.ref)), F3, Γa, toB S3, ?_⟩
    rcases rest with ⟨Γb, y, Γc, et, ey, hz, el'⟩ | ⟨Γb, et, el'⟩
    · rw [et]
      intro F4 H4 q4 S4
      show if true = true then _ else _
      rw [if_pos rfl]
      refine ⟨upd B0 Dd (.lst (as.map V.ref)), F4, Γb, S4, ?_⟩
      rw [ownO_ok ey]
      intro F5 H5 q5 S5 v hv
      have S5 := ofB S5
      obtain ⟨a, ho, rfl, n1, n2, n3, n4, n5⟩ := hv
      have n4 : OwnIs T.X.K T.cm F5 ho y := by rw [← hK, ← hcm]; exact n4
      have hF5 := noD S5
      have haD : a ≠ Dd := fun z => by rw [z, upd_same] at n2; cases n2
      have hB0a : B0 a = none := by rw [upd_ne haD] at n2; exact n2
      have S6 := S5.side (p := a) n1 (o := ho) (.inr ⟨n2, n5⟩)
      rw [upd_comm haD, upd_id n3] at S6
      have hB1D : (upd B0 a ho) Dd = none := by rw [upd_ne (fun z => haD z.symm)]; exact hD0
      have S7 := (S6.rewipe hio hw3).reside (o' := .lst ((as ++ [a]).map V.ref)) hF5 hB1D
      have eL : (as ++ [a]).map V.ref = as.map V.ref ++ [V.ref a] := by simp
      have q25 : Same F F5 := (((t.ff).trans q3).trans q4).trans q5
      have hna : a ∉ as := fun z => by
        obtain ⟨j, hj⟩ := List.getElem?_of_mem z
        have hjl : j < accD.length := by rw [← hlen]; exact (List.getElem?_eq_some_iff.mp hj).1
        obtain ⟨_, _, ho', w3, _⟩ := wt j a accD[j] (Nat.zero_le _) hj (List.getElem?_eq_getElem hjl)
        rw [hB0a] at w3; cases w3
      refine ⟨as.map V.ref, S5.bh _ _ upd_same, by rw [List.length_map, hlen]; exact lt_big hz, ?_⟩
      rw [← eL]
      refine ⟨F5, wipeG Γc vs, upd B0 a ho, as ++ [a], accD ++ [y], q.trans q25, fun p o ep => ?_, hB1D, S7, fun j b d hj hb hd => ?_, by rw [List.length_append, List.length_append, hlen]; rfl, ?_, ?_, el'⟩
      · have e1 : p ≠ a := fun z => by rw [z, q0.free hB0a] at ep; cases ep
        rw [upd_ne e1]; exact q0 p o ep
      · by_cases hjl : j < as.length
        · rw [List.getElem?_append_left hjl] at hb
          rw [List.getElem?_append_left (by rw [← hlen]; exact hjl)] at hd
          obtain ⟨w1, w2, ho', w3, w4⟩ := wt j b d hj hb hd
          have hne : b ≠ a := fun z => by rw [z, hB0a] at w3; cases w3
          exact ⟨w1, w2, ho', by rw [upd_ne hne]; exact w3, w4.mono q25⟩
        · have hj2 : j = as.length := by
            have := (List.getElem?_eq_some_iff.mp hb).1
            rw [List.length_append, List.length_singleton] at this
            omega
          subst hj2
          rw [List.getElem?_append_right (Nat.le_refl _), Nat.sub_self] at hb
          rw [List.getElem?_append_right (by omega), hlen, Nat.sub_self] at hd
          simp only [List.getElem?_cons_zero, Option.some.injEq] at hb hd
          subst hb; subst hd
          exact ⟨S5.f0.free n1, q0.free hB0a, ho, upd_same, n4⟩
      · rw [List.nodup_append]
        exact ⟨hnod, by simp, fun x hx y hy => by
          rw [List.mem_singleton] at hy
          subst hy
          exact fun z => hna (z ▸ hx)⟩
      · rw [List.mem_append, List.mem_singleton]
        rintro (z | z)
        · exact hDa z
        · exact haD z.symm
    · rw [et]
      intro F4 H4 q4 S4
      show if false = true then _ else _
      rw [if_neg (by simp)]
      exact ⟨F4, wipeG Γb vs, B0, as, accD, ((q.trans t.ff).trans q3).trans q4, q0, hD0, (ofB S4).rewipe hio hw3, wt.mono ((t.ff.trans q3).trans q4), hlen, hnod, hDa, el'⟩
  · have ed : ds.drop i' = [] := List.drop_eq_nil_of_le (by omega)
    rw [ed] at el
    simp only [loopL, Option.some.injEq, Prod.mk.injEq, Except.ok.injEq] at el
    obtain ⟨rfl, rfl⟩ := el
    have SU := Sat.unwipe2 S1 S q
    have qL : Same B (upd B0 Dd (.lst (as.map V.ref))) := fun p o ep => by
      have e2 : p ≠ Dd := fun z => by rw [z, hBD] at ep; cases ep
      rw [upd_ne e2]; exact q0 p o ep
    exact .inl ⟨w2 (by omega), Dd, rfl, ⟨as.map V.ref, .inl (.of hD1)⟩, forO_loop hii hlen hnod hDa hBD ⟨F, unwipe Γ1 Γ vs, B0, q0, hD0, SU, wt, r2 F H σ q (SU.weakB qL)⟩⟩
theorem pss_ex {X : Cx} {st : List Stmt} {α : Type} {t : α → TS} (h : ∀ a, PSs X st (t a)) : PSs X st (fun D σ H => ∃ a, t a D σ H) := ⟨fun pins s σ H D I ⟨a, q⟩ => (h a).run pins s σ H D I q⟩
theorem rs_forO {k : Nat} (i : Nat) (own : List (Str × Nat)) {y : Str} (c : Cok T k) (hi : RI T tg iter ci) (hg : ∀ (s : Shared) (H : Hp) (C : Addr) (cl : List (Str × Addr)) (fp : List Addr), RGw (T.blk s H scope (compEnvC scope cl C T.X.env) fp) (own.map (·.2)) tg g)
    (ht : ∀ (s : Shared) (H : Hp) (C : Addr) (cl : List (Str × Addr)) (fp : List Addr), RTs (T.blk s H scope (compEnvC scope cl C T.X.env) fp) ifs ct) (he : ∀ (s : Shared) (H : Hp) (C : Addr) (cl : List (Str × Addr)) (fp : List Addr), RE (T.blk s H scope (compEnvC scope cl C T.X.env) fp) elt ce) (hb : RSs T body cb)
    (hy : T.X.N[i]? = some y := by rfl) (hx : Loc T.X.env.scope y := by first | exact Or.inl rfl | exact Or.inr rfl) (hf : T.X.fn y = true ∨ T.X.env.scope.names.lookup y = some .local := by first | exact .inl rfl | exact .inr rfl | assumption)
    (ok : blkC T.X.N T.X.env.scope scope own = true := by decide +kernel) (hio : ∀ v ∈ own.map (·.2), NoIo T v := by intro v hv; first | exact Or.inl rfl | (refine Or.inr ?_; simp only [List.map_cons, List.map_nil, List.mem_cons, List.not_mem_nil, or_false] at hv; omega))
    (hio' : NoIo T i := by first | exact Or.inl rfl | exact Or.inr (by decide)) (hs : ∀ x, foldedSetIterable iter T.X.env x = pure x := by intro _; rfl) (hs2 : ∀ x, foldedSetIterable (.ListComp elt [⟨tg, iter, ifs, 0⟩] scope pos) T.X.env x = pure x := by intro _; rfl) :
    RS T (.For (.Name y py) (.ListComp elt [⟨tg, iter, ifs, 0⟩] scope pos) body [] spos) (sFor (sLcO (own.map (·.2)) ci g ct ce) (gOwn i) cb) := fun B F0 =>
  (ps_for c.own c.calm (pi_list (pe_lc c.calm c.nd (hi B F0) (blkOk_by ok) (fun s H C cl fp => pg_ex fun B => hg s H C cl fp B F0) (fun s H C cl fp => pts_ex fun B => ht s H C cl fp B F0) (fun s H C cl fp => pe_ex fun B => he s H C cl fp B F0) hs)) (pg_name c.nd hy hx hf) (pss_ex fun B => hb B F0) hs2).weak fun D σ H h =>
    forO_weak (tb T) rfl rfl rfl hio hio' h
end
end DL

/-! DL26: x + i by an own __add__ that gives a fresh object. -/
namespace DL
open PySem PySem.Spec PyProof.Rows L2
structure DefAddO (P : Program) (w : World) (K : PySem.W.Frag) (mg : Str → Option Value) (base : Heap) (cm : Nat → Addr) (k : Nat) (c : Nat) (φ : Fn) : Prop where
  ex : ∃ f fd ps, ps.length = 2 ∧ PySem.W.findIn K (.ref (cm c)) "__add__" = some (some (.ref f)) ∧ PySem.W.isFn K (.ref f) = true ∧ PySem.W.findIn K (.ref (cm c)) "__radd__" = some none ∧
    PySem.W.selfFirst K (cm c) = true ∧ Binds K fd ps [] ∧ FnG P w K mg base k f fd ps (spD K cm 2 φ)
def addA (c : Nat) (φ : Fn) (x y : D) : M Rf := match x, y with
  | .ins c' fs vs, .int i => if c' = c then match φ [.ins c' fs vs, .int i] with
    | some (.ok (.own d)) => liftX (some (.ok (.own d)))
    | _ => fail
    else fail
  | _, _ => fail
def sAddO (c : Nat) (φ : Fn) (a b : M Rf) : M Rf := bnd (cap a) fun x => bnd (cap b) fun y => addA c φ x y
theorem int_slot (nm : String) (h : (PySem.fastLookup "int" (PySem.dunder nm)).isSome = true) (K : PySem.W.Frag) : ∃ fo, PySem.W.findIn K (.type "int") (PySem.dunder nm) = some fo := Option.isSome_iff_exists.mp h
theorem sub_int {K : PySem.W.Frag} {C : Addr} : PySem.W.subIn K (.type "int") (.ref C) = some false := by
  have h : (fastBuiltinMro "int").any (fun l => l.all fun v => match v with | .type _ => true | _ => false) = true := by decide +kernel
  rcases e : fastBuiltinMro "int" with _ | l
  · rw [e] at h; cases h
  · rw [e] at h
    have h : (l.all fun v => match v with | .type _ => true | _ => false) = true := by simpa using h
    show (fastBuiltinMro "int").map (·.contains (.ref C)) = some false
    rw [e]
    simp only [Option.map_some, Option.some.injEq]
    rw [Bool.eq_false_iff]
    intro hc
    have hm : Value.ref C ∈ l := by simpa using hc
    exact absurd (List.all_eq_true.mp h _ hm) (by simp)
section
variable {T : Tx} {a b : Expr} {ca cb : M Rf} {pos : Pos} {c k : Nat} {φ : Fn}
def rAddO (T : Tx) (c : Nat) (φ : Fn) : R2 := fun x y H Q => ∃ F fs vs i d, Same F H ∧ T.Is F x (.ins c fs vs) ∧ y = .int i ∧ φ [.ins c fs vs, .int i] = some (.ok (.own d)) ∧ ∀ p ho F' H', Step F H F' H' → H p = none → F' p = none → H' p = some ho → OwnIs T.X.K T.cm F' ho d → Q (.ref p) H'
theorem addO_weak {B F0 : Hp} {σ : L2.St} {H : Hp} {Q : VK} (h : tS T B F0 (sAddO c φ ca cb) σ H Q) : tOp (rAddO T c φ) (tD T B F0 (cap ca)) (tD T B F0 (cap cb)) σ H Q := by
  obtain ⟨F, Γ, r⟩ := h
  refine ⟨F, Γ, r.bnd.mono fun x F1 Γ1 H1 q1 S1 r1 v hv => ⟨F1, Γ1, r1.bnd.mono fun y F2 Γ2 H2 q2 S2 r2 u hu => ?_⟩⟩
  match x, y, hv, hu, r2 with
  | .ins c' fs vs, .int i, hv, hu, r2 =>
    by_cases hc : c' = c
    · subst hc
      have r3 : Run T B F0 (match φ [.ins c' fs vs, .int i] with
        | some (.ok (.own d)) => liftX (some (.ok (.own d)))
        | _ => fail) F2 Γ2 σ H2 fun r F' Γ' H' => ∀ v, IsRf T.X.K T.cm B F' Γ' σ H' v r → Q v H' := by
        have e : addA c' φ (.ins c' fs vs) (.int i) = (match φ [.ins c' fs vs, .int i] with
          | some (.ok (.own d)) => liftX (some (.ok (.own d)))
          | _ => fail) := if_pos rfl
        rw [← e]; exact r2
      match e : φ [.ins c' fs vs, .int i], r3 with
      | some (.ok (.own d)), r3 =>
        obtain ⟨r0, e0, h0⟩ := r3.liftX
        cases e0
        exact ⟨F2, fs, vs, i, d, S2.fh, hv.mono q2 _, IsT.int (H := H2) (.inl hu), e, h0⟩
      | some (.ok (.dat d)), r3 => exact r3.2.elim
      | some (.ok (.slot d)), r3 => exact r3.2.elim
      | some (.error d), r3 => exact r3.2.elim
      | none, r3 => exact r3.2.elim
    · have e : addA c φ (.ins c' fs vs) (.int i) = fail := if_neg hc
      rw [e] at r2
      exact r2.2.elim
  | .non, _, _, _, r2 => exact r2.2.elim
  | .bl _, _, _, _, r2 => exact r2.2.elim
  | .int _, _, _, _, r2 => exact r2.2.elim
  | .str _, _, _, _, r2 => exact r2.2.elim
  | .ty _, _, _, _, r2 => exact r2.2.elim
  | .cls _, _, _, _, r2 => exact r2.2.elim
  | .lst _, _, _, _, r2 => exact r2.2.elim
  | .tup _, _, _, _, r2 => exact r2.2.elim
  | .dic _ _, _, _, _, r2 => exact r2.2.elim
  | .exc _ _ _, _, _, _, r2 => exact r2.2.elim
  | .ins _ _ _, .non, _, _, r2 => exact r2.2.elim
  | .ins _ _ _, .bl _, _, _, r2 => exact r2.2.elim
  | .ins _ _ _, .str _, _, _, r2 => exact r2.2.elim
  | .ins _ _ _, .ty _, _, _, r2 => exact r2.2.elim
  | .ins _ _ _, .cls _, _, _, r2 => exact r2.2.elim
  | .ins _ _ _, .lst _, _, _, r2 => exact r2.2.elim
  | .ins _ _ _, .tup _, _, _, r2 => exact r2.2.elim
  | .ins _ _ _, .dic _ _, _, _, r2 => exact r2.2.elim
  | .ins _ _ _, .ins _ _ _, _, _, r2 => exact r2.2.elim
  | .ins _ _ _, .exc _ _ _, _, _, r2 => exact r2.2.elim
theorem op_addO (G : DefAddO T.X.prog T.X.w T.X.K T.X.mg T.X.base T.cm k c φ) (ck : Cok T k) : OpR T.X (binaryOp .Add) (rAddO T c φ) := by
  intro pins s σ H x y v u Q I rx ry ⟨F, fs, vs, i, d, fh, i1, ey, hφ, q⟩
  subst ey
  obtain ⟨f, fd, ps, hl, hs, hf, hr, hc, hb, G⟩ := G.ex
  obtain ⟨a, dx, ws, rfl, g1, _, _⟩ := IsT.ins fh (.inl i1)
  cases rx
  obtain ⟨mA, J, _⟩ := ins_get I.hok g1
  obtain ⟨od, J, _⟩ := J.look
  obtain ⟨m, hF⟩ := I.fr
  obtain ⟨t, eu⟩ : ∃ t, u = Value.int i t := ry
  subst eu
  obtain ⟨fo, h1⟩ := int_slot "add" (by decide +kernel) T.X.K
  obtain ⟨ro, h2⟩ := int_slot "radd" (by decide +kernel) T.X.K
  have ty : typeOf (Value.int i t) = pure (.type "int") := rfl
  refine PySem.W.ksp_binT (op := .Add) (T := "int") (fo := fo) (ro := ro) (rc := none) hF I.ok.mod.kin J ty hc hs hf hr (.inl rfl) h1 h2 sub_int ?_
  refine wpAny_mono (run_fnG (us := [.ref a, .int i t]) (vs := [.ref a, .int i]) (Q := fun v H' => (∃ p, v = .ref p) ∧ Q v H') G ck.room ck.grd hb .nil (passAt ck.tk σ) I (.cons rfl (.cons ⟨t, rfl⟩ .nil)) ?_) (fun r s' z => ?_) fun _ _ e => e
  · rw [List.append_nil]
    exact ⟨F, [.ins c fs vs, .int i], _, rfl, fh, .cons i1 (.cons (.int i) .nil), hφ, fun p ho F' H' t n n' e o => ⟨⟨p, rfl⟩, q p ho F' H' t n n' e o⟩⟩
  · obtain ⟨v, H', I', rv, ⟨p, rfl⟩, z⟩ := z
    obtain rfl : r = Value.ref p := rv
    exact ⟨.ref p, H', I', rfl, z⟩
theorem re_addO (G : DefAddO T.X.prog T.X.w T.X.K T.X.mg T.X.base T.cm k c φ) (ck : Cok T k) (ha : RE T a ca) (hb : RE T b cb) : RE T (.BinOp a .Add b pos) (sAddO c φ ca cb) := fun B F0 =>
  (pe_op (op_addO G ck) (rd_of ha B F0) (rd_of hb B F0)).weak fun _ _ _ h => addO_weak h
end
end DL

/-! DL27: comprehensions that walk over a dict (which stands locked meanwhile). -/
namespace DL
open PySem PySem.Spec L2 PyProof.Rows

/-! ### locking: what is data stays data -/
/-- F' is F but for dicts that are locked or unlocked -/
def SwD (F F' : Hp) : Prop := ∀ b o, F b = some o → F' b = some o ∨ ∃ u o', lockO u = true ∧ ((o = u ∧ F' b = some (.frz o' u)) ∨ (o = .frz o' u ∧ F' b = some u))
theorem SwD.flat {F F' : Hp} (e : SwD F F') {b : Addr} {o : HO} (h : F b = some o) (n1 : lockO o = false) (n2 : ∀ o' u, o = .frz o' u → lockO u = false) : F' b = some o := by
  rcases e b o h with h | ⟨u, o', hl, ⟨rfl, h⟩ | ⟨rfl, h⟩⟩
  · exact h
  · rw [n1] at hl; cases hl
  · rw [n2 _ _ rfl] at hl; cases hl
theorem RdD.sw {F F' : Hp} (e : SwD F F') {a : Addr} {ho : HO} (h : RdD F a ho) (nf : ∀ o u, ho ≠ .frz o u) : RdD F' a ho := by
  rcases h with h | ⟨m, o, h⟩
  · rcases e a ho h with h | ⟨u, o', hl, ⟨rfl, h⟩ | ⟨rfl, h⟩⟩
    · exact .inl h
    · exact .inr ⟨hl, _, h⟩
    · exact absurd rfl (nf _ _)
  · rcases e a _ h with h | ⟨u, o', hl, ⟨rfl, h⟩ | ⟨q, h⟩⟩
    · exact .inr ⟨m, _, h⟩
    · cases hl
    · cases q; exact .inl h
theorem sql_sw {K : PySem.W.Frag} {F F' : Hp} (e : SwD F F') {a : Addr} {xs : List V} (h : SqL K F a xs) : SqL K F' a xs := by
  rcases h with (h | ⟨o, h⟩) | h
  · exact .inl (.inl (e.flat h rfl fun _ _ z => nomatch z))
  · exact .inl (.inr ⟨o, e.flat h rfl fun _ _ z => by cases z; rfl⟩)
  · exact .inr h
section
variable {K : PySem.W.Frag} {cm : Nat → Addr} {F F' H H' : Hp}
theorem excO_flat (e : SwD F F') {a C : Addr} {dx : Option Addr} (h : F a = some (ExcO a C dx)) : F' a = some (ExcO a C dx) := e.flat h rfl fun _ _ z => nomatch z
mutual
theorem Is.sw (e : SwD F F') : ∀ (d : D) {v : V}, Is K cm F v d → Is K cm F' v d
  | .non, _, h => by
    cases h with
    | non => exact .non
    | obj h ho => cases ho
  | .bl b, _, h => by
    cases h with
    | bl => exact .bl b
    | obj h ho => cases ho
  | .int i, _, h => by
    cases h with
    | int => exact .int i
    | obj h ho => cases ho
  | .str x, _, h => by
    cases h with
    | str => exact .str x
    | obj h ho => cases ho
  | .ty n, _, h => by
    cases h with
    | ty => exact .ty n
    | obj h ho => cases ho
  | .cls c, _, h => by
    cases h with
    | cls => exact .cls c
    | obj h ho => cases ho
  | .lst ds, _, h => by
    cases h with
    | klst h hs => exact .klst (sql_sw e h) (IsAll.sw e ds hs)
    | obj h ho =>
      cases ho with
      | lst hs => exact .obj (h.sw e fun _ _ z => nomatch z) (.lst (IsAll.sw e ds hs))
  | .tup ds, _, h => by
    cases h with
    | ktup h hs => exact .ktup (e.flat h rfl fun _ _ z => nomatch z) (IsAll.sw e ds hs)
    | obj h ho => cases ho
  | .dic ks vs, _, h => by
    cases h with
    | obj h ho =>
      cases ho with
      | dK hk hs => exact .obj (h.sw e fun _ _ z => nomatch z) (.dK hk (IsAll.sw e vs hs))
      | dT hk hs => exact .obj (h.sw e fun _ _ z => nomatch z) (.dT hk (IsAll.sw e vs hs))
  | .ins c fs vs, _, h => by
    cases h with
    | obj h ho =>
      cases ho with
      | ins hf hs => exact .obj (h.sw e fun _ _ z => nomatch z) (.ins hf (IsAll.sw e vs hs))
  | .exc c fs vs, _, h => by
    cases h with
    | exc h hd hf hs => exact .exc (excO_flat e h) (e.flat hd rfl fun _ _ z => nomatch z) hf (IsAll.sw e vs hs)
    | exc0 h => exact .exc0 (excO_flat e h)
    | obj h ho => cases ho
theorem IsAll.sw (e : SwD F F') : ∀ (ds : List D) {vs : List V}, IsAll K cm F vs ds → IsAll K cm F' vs ds
  | [], _, h => by
    cases h
    exact .nil
  | d :: ds, _, h => by
    cases h with
    | cons h hs => exact .cons (Is.sw e d h) (IsAll.sw e ds hs)
end
theorem OwnIs.sw (e : SwD F F') {ho : HO} {d : D} (h : OwnIs K cm F ho d) : OwnIs K cm F' ho d := by
  cases h with
  | lst hs => exact .lst (hs.sw e _)
  | dK hk hs => exact .dK hk (hs.sw e _)
  | dT hk hs => exact .dT hk (hs.sw e _)
  | ins hf hs => exact .ins hf (hs.sw e _)
end
/-- what stands at a is replaced, if something stands there -/
def swA (F : Hp) (a : Addr) (x : HO) : Hp := fun b => if b = a then (match F a with
  | none => none
  | some _ => some x) else F b
theorem swA_ne {F : Hp} {a b : Addr} {x : HO} (h : b ≠ a) : swA F a x b = F b := if_neg h
theorem swA_none {F : Hp} {a : Addr} {x : HO} (h : F a = none) : swA F a x a = none := by unfold swA; rw [if_pos rfl, h]
theorem swA_some {F : Hp} {a : Addr} {x o : HO} (h : F a = some o) : swA F a x a = some x := by unfold swA; rw [if_pos rfl, h]
theorem swA_inv {F : Hp} {a b : Addr} {x o : HO} (h : swA F a x b = some o) : (b = a ∧ o = x ∧ ∃ o', F a = some o') ∨ (b ≠ a ∧ F b = some o) := by
  by_cases hb : b = a
  · subst hb
    rcases q : F b with _ | o'
    · rw [swA_none q] at h; cases h
    · rw [swA_some q] at h; cases h; exact .inl ⟨rfl, rfl, _, rfl⟩
  · rw [swA_ne hb] at h; exact .inr ⟨hb, h⟩
section
variable {K : PySem.W.Frag} {cm : Nat → Addr} {io : Option Addr} {B F0 F : Hp} {Γ : List Sl} {σ : L2.St} {H : Hp} {a : Addr} {od : Obj} {u : HO}
theorem swD_lock (hF : F a = some u) (hl : lockO u = true) : SwD F (upd F a (.frz od u)) := fun b o h => by
  by_cases hb : b = a
  · subst hb
    rw [hF] at h; cases h
    exact .inr ⟨u, od, hl, .inl ⟨rfl, upd_same⟩⟩
  · exact .inl (by rw [upd_ne hb]; exact h)
theorem swD_unlock (hF : F a = some (.frz od u)) (hl : lockO u = true) : SwD F (upd F a u) := fun b o h => by
  by_cases hb : b = a
  · subst hb
    rw [hF] at h; cases h
    exact .inr ⟨u, od, hl, .inr ⟨rfl, upd_same⟩⟩
  · exact .inl (by rw [upd_ne hb]; exact h)
theorem Sat.lock (S : Sat K cm io B F0 F Γ σ H) (hF : F a = some u) (hl : lockO u = true) : Sat K cm io (swA B a (.frz od u)) (swA F0 a (.frz od u)) (upd F a (.frz od u)) Γ σ (upd H a (.frz od u)) where
  fh := S.fh.upd2
  bh := fun b o h => by
    rcases swA_inv h with ⟨rfl, rfl, _⟩ | ⟨hb, h⟩
    · exact upd_same
    · rw [upd_ne hb]; exact S.bh b o h
  f0 := fun b o h => by
    rcases swA_inv h with ⟨rfl, rfl, _⟩ | ⟨hb, h⟩
    · exact upd_same
    · rw [upd_ne hb]; exact S.f0 b o h
  nw := fun p o h => by
    by_cases hp : p = a
    · subst hp
      rw [upd_same] at h; cases h
      rcases S.nw p u hF with q | q
      · exact .inl (swA_some q)
      · exact .inr (swA_none q)
    · rw [upd_ne hp] at h
      rcases S.nw p o h with q | q
      · exact .inl (by rw [swA_ne hp]; exact q)
      · exact .inr (by rw [swA_ne hp]; exact q)
  len := S.len
  dt := fun i d h => let ⟨v, h1, h2⟩ := S.dt i d h; ⟨v, h1, h2.sw (swD_lock hF hl) _⟩
  ow := fun i d h => by
    obtain ⟨b, ho, h1, h2, h3, h4, h5⟩ := S.ow i d h
    have ne : b ≠ a := fun z => by rw [z, hF] at h2; cases h2
    exact ⟨b, ho, h1, by rw [upd_ne ne]; exact h2, by rw [swA_ne ne]; exact h3, by rw [upd_ne ne]; exact h4, h5.sw (swD_lock hF hl)⟩
  ap := S.ap
  ioA := S.ioA
theorem Sat.unlock {F2 : Hp} {Γ2 : List Sl} {H2 : Hp} {σ2 : L2.St} (S : Sat K cm io B F0 F Γ σ H) (hF : F a = some u) (hl : lockO u = true) (S2 : Sat K cm io (swA B a (.frz od u)) (swA F0 a (.frz od u)) F2 Γ2 σ2 H2) (q : Same (upd F a (.frz od u)) F2) :
    Sat K cm io B F0 (upd F2 a u) Γ2 σ2 (upd H2 a u) ∧ Same F (upd F2 a u) ∧ SwD F2 (upd F2 a u) ∧ F2 a = some (.frz od u) ∧ H2 a = some (.frz od u) := by
  have hF2 : F2 a = some (.frz od u) := q _ _ upd_same
  have hH : H a = some u := S.fh _ _ hF
  have sw : SwD F2 (upd F2 a u) := swD_unlock hF2 hl
  refine ⟨{ fh := S2.fh.upd2, bh := fun b o h => ?_, f0 := fun b o h => ?_, nw := fun p o h => ?_, len := S2.len, dt := fun i d h => ?_, ow := fun i d h => ?_, ap := S2.ap, ioA := S2.ioA }, fun b o h => ?_, sw, hF2, S2.fh _ _ hF2⟩
  · by_cases hb : b = a
    · subst hb
      have := S.bh _ _ h
      rw [hH] at this; cases this
      exact upd_same
    · rw [upd_ne hb]
      exact S2.bh b o (by rw [swA_ne hb]; exact h)
  · by_cases hb : b = a
    · subst hb
      have := S.f0 _ _ h
      rw [hF] at this; cases this
      exact upd_same
    · rw [upd_ne hb]
      exact S2.f0 b o (by rw [swA_ne hb]; exact h)
  · by_cases hp : p = a
    · subst hp
      rw [upd_same] at h; cases h
      exact S.nw _ _ hF
    · rw [upd_ne hp] at h
      rcases S2.nw p o h with q | q
      · exact .inl (by rw [swA_ne hp] at q; exact q)
      · exact .inr (by rw [swA_ne hp] at q; exact q)
  · obtain ⟨v, h1, h2⟩ := S2.dt i d h
    exact ⟨v, h1, h2.sw sw _⟩
  · obtain ⟨b, ho, h1, h2, h3, h4, h5⟩ := S2.ow i d h
    have ne : b ≠ a := fun z => by rw [z, hF2] at h2; cases h2
    exact ⟨b, ho, h1, by rw [upd_ne ne]; exact h2, by rw [swA_ne ne] at h3; exact h3, by rw [upd_ne ne]; exact h4, h5.sw sw⟩
  · by_cases hb : b = a
    · subst hb
      rw [hF] at h; cases h
      exact upd_same
    · rw [upd_ne hb]
      exact q b o (by rw [upd_ne hb]; exact h)
end
theorem upd_self {H : Hp} {a : Addr} {o : HO} (h : H a = some o) : upd H a o = H := by
  funext b
  by_cases hb : b = a
  · rw [hb, upd_same, h]
  · rw [upd_ne hb]
/-! ### the keys of the dict in a slot -/
def sKeys (i : Nat) : M (List D) := fun Γ => match Γ[i]? with
  | some (.dat (.dic ks _)) => if ks.isEmpty || !ks.all atomK then none else some (.ok ks, Γ)
  | some (.own (.dic ks vs)) => if ks.isEmpty || !ks.all atomK then none else some (.ok ks, Γ.set i (.dat (.dic ks vs)))
  | _ => none
section
variable {T : Tx} {B F0 F : Hp} {Γ : List Sl} {σ : L2.St} {H : Hp} {i : Nat}
/-- the dict as data -/
theorem keys_run {P : List D → Hp → List Sl → Hp → Prop} (r : Run T B F0 (sKeys i) F Γ σ H P) : ∃ F1 Γ1 a ho ks ws, Same F F1 ∧ T.Sat B F0 F1 Γ1 σ H ∧ σ[i]? = some (some (.ref a)) ∧ RdD F1 a ho ∧ OwnIs T.X.K T.cm F1 ho (.dic ks ws) ∧ lockO ho = true ∧ ks.all atomK = true ∧ (∀ F' H', Same F1 F' → T.Sat B F0 F' Γ1 σ H' → P ks F' Γ1 H') := by
  obtain ⟨S, r⟩ := r
  unfold sKeys at r
  have lk : ∀ {ho : HO} {ks ws : List D} {F1 : Hp}, OwnIs T.X.K T.cm F1 ho (.dic ks ws) → ks.isEmpty = false → ks.all atomK = true → lockO ho = true := fun h n m => by
    cases h with
    | @dK kvs _ _ hk _ =>
      cases kvs with
      | nil => rw [← hk] at n; cases n
      | cons => rfl
    | @dT kvs _ _ hk _ =>
      subst hk
      cases kvs with
      | nil => cases n
      | cons p kvs =>
        simp only [List.map_cons, List.all_cons, Bool.and_eq_true] at m
        cases m.1
  split at r
  · exact r.elim
  · rename_i ks0 Γ' e
    split at e
    · rename_i ks vs hd
      split at e
      · cases e
      · rename_i ne
        injection e with e; injection e with e1 e2; injection e1 with e1; subst e1; subst e2
        obtain ⟨v, h1, h2⟩ := S.dt i _ hd
        simp only [Bool.or_eq_true, Bool.not_eq_true', not_or, Bool.not_eq_true, Bool.not_eq_false] at ne
        cases h2 with
        | obj h2 ho => exact ⟨F, Γ, _, _, _, _, .refl _, S, h1, h2, ho, lk ho ne.1 ne.2, ne.2, r⟩
    · rename_i ks vs hd
      split at e
      · cases e
      · rename_i ne
        injection e with e; injection e with e1 e2; injection e1 with e1; subst e1; subst e2
        obtain ⟨a, ho, F2, g1, g2, rfl, g3, g4, g5⟩ := S.frSlot hd
        simp only [Bool.or_eq_true, Bool.not_eq_true', not_or, Bool.not_eq_true, Bool.not_eq_false] at ne
        cases g4 with
        | obj h2 ho => exact ⟨_, _, _, _, _, _, g3, g5, g1, h2, ho, lk ho ne.1 ne.2, ne.2, fun F' H' q' S' => r F' H' (g3.trans q') S'⟩
    · cases e
  · rename_i x Γ' e
    split at e
    · split at e <;> cases e
    · split at e <;> cases e
    · cases e
/-- the walk over the keys -/
theorem walk_dic {a : Addr} {o : Obj} {ho : HO} {ks ws : List D} (h : F a = some (.frz o ho)) (i : OwnIs T.X.K T.cm F ho (.dic ks ws)) (hl : lockO ho = true) (ha : ks.all atomK = true) : ∃ kvs, ho = .dK kvs ∧ Walk T (Itk a o kvs) F ks := by
  cases i with
  | @dK kvs _ _ hk hs =>
    refine ⟨kvs, rfl, fun i F' H' q fh => ⟨fun d hd => ?_, fun hi => ?_⟩⟩
    · have hl : i < kvs.length := by
        have := (List.getElem?_eq_some_iff.mp hd).1
        rw [← hk, List.length_map] at this; exact this
      refine ⟨⟨fh _ _ (q _ _ h), hl⟩, fun x H2 hy => ?_⟩
      obtain ⟨rfl, k, v, hkv, rfl⟩ := hy
      have : d = keyD k := by
        rw [← hk, List.getElem?_map, hkv] at hd
        exact (Option.some.inj hd).symm
      subst this
      exact ⟨F', .refl fh, key_is k⟩
    · refine ⟨fh _ _ (q _ _ h), ?_⟩
      rw [hi, ← hk, List.length_map]; exact Nat.le_refl _
  | dT _ _ => cases hl
end
/-! ### [elt for target in d if ..], {k: v for target in d if ..} -/
/-- an expression that walks over the dict in slot i: locked for it, or locked already -/
def tWalkE (i : Nat) (t : TI → TE) : TE := fun σ H Q => t (iKeys (tVar i)) σ H Q ∨ tLockE (t (iKeys (tVar i))) σ H Q
theorem pe_walkE {X : Cx} {e : Expr} {i : Nat} {t : TI → TE} (h : PE X e (t (iKeys (tVar i)))) : PE X e (tWalkE i t) := ⟨fun pins s σ H Q I q => by
  rcases q with q | q
  · exact h.run pins s σ H Q I q
  · exact (pe_lock h).run pins s σ H Q I q⟩
section
variable {T : Tx} {elt tg iter kx vx : Expr} {ifs : List Expr} {scope : Scope} {pos py : Pos} {g : D → M Unit} {ct : M Bool} {ce ck cv : M Rf}
theorem lc_core {B F0 F1 : Hp} {Γ1 Γ2 : List Sl} {σ : L2.St} {H1 : Hp} {Q : VK} {vs : List Nat} {ds acc : List D} {J : It} (hio : ∀ v ∈ vs, NoIo T v) (S1 : T.Sat B F0 F1 Γ1 σ H1) (e : loopL g ct (cap ce) vs ds [] (wipeG Γ1 vs) = some (.ok acc, Γ2)) (hJ : Walk T J F1 ds)
    (r2 : ∀ F' H', Same F1 F' → T.Sat B F0 F' (unwipe Γ1 Γ2 vs) σ H' → ∀ v, IsRf T.X.K T.cm B F' (unwipe Γ1 Γ2 vs) σ H' v (.own (.lst acc)) → Q v H') : ∀ Dd, H1 Dd = none → ∃ W : Nat → Nat → Hp → Prop, (∃ m, W 0 m (upd H1 Dd (.lst []))) ∧ ∀ i m H, W i m H →
  (J.stop i H ∧ Q (.ref Dd) H) ∨ (J.go i H ∧ ∃ Nx : Hp → Prop, (∀ H', Nx H' → ∃ m', m' < m ∧ W (i + 1) m' H') ∧ ∀ x H', J.yld i H x H' → (fun v σ' H' Q' => ∃ p : Hp × Hp, tGw (tb T) p.1 p.2 vs g v σ' H' Q') x (wipe σ vs) H' fun σ2 H2 => wipe σ2 vs = wipe σ vs ∧ (fun σ' H' Q' => ∃ p : Hp × Hp, tT (tb T) p.1 p.2 ct σ' H' Q') σ2 H2 fun b H3 =>
    if b = true then (fun σ' H' Q' => ∃ p : Hp × Hp, tD (tb T) p.1 p.2 (cap ce) σ' H' Q') σ2 H3 fun y H4 => ∃ acc, H4 Dd = some (.lst acc) ∧ acc.length < sizeLine ∧ Nx (upd H4 Dd (.lst (acc ++ [y]))) else Nx H3) := by
  intro Dd hD
  have hBD : B Dd = none := S1.bh.free hD
  have hF1D : F1 Dd = none := S1.fh.free hD
  have hF0D : F0 Dd = none := S1.f0.free hF1D
  have noD : ∀ {F' : Hp} {Γ' : List Sl} {σ' : L2.St} {H' : Hp} {o : HO}, T.Sat (upd B Dd o) F0 F' Γ' σ' H' → F' Dd = none := fun {F' Γ' σ' H' o} S => by
    cases z : F' Dd with
    | none => rfl
    | some u =>
      rcases S.nw Dd u z with h | h
      · rw [hF0D] at h; cases h
      · rw [upd_same] at h; cases h
  refine ⟨fun i m H => ∃ F Γ accV accD, Same F1 F ∧ m = ds.length - i ∧ i ≤ ds.length ∧ T.Sat (upd B Dd (.lst accV)) F0 F Γ (wipe σ vs) H ∧ IsAll T.X.K T.cm F accV accD ∧ loopL g ct (cap ce) vs (ds.drop i) accD Γ = some (.ok acc, Γ2),
    ⟨ds.length, F1, wipeG Γ1 vs, [], [], .refl _, by simp, Nat.zero_le _, (S1.wipeW hio).side hF1D (.inl hD), .nil, by simpa using e⟩, ?_⟩
  rintro i m H ⟨F, Γ, accV, accD, q, rfl, hi, S, ia, el⟩
  obtain ⟨w1, w2⟩ := hJ i F H q S.fh
  have hD1 : H Dd = some (.lst accV) := S.bh _ _ upd_same
  by_cases hlt : i < ds.length
  · rw [List.drop_eq_getElem_cons hlt] at el
    obtain ⟨go, yl⟩ := w1 ds[i] (by simp [hlt])
    refine .inr ⟨go, fun H' => ∃ F Γ accV accD, Same F1 F ∧ T.Sat (upd B Dd (.lst accV)) F0 F Γ (wipe σ vs) H' ∧ IsAll T.X.K T.cm F accV accD ∧ loopL g ct (cap ce) vs (ds.drop (i + 1)) accD Γ = some (.ok acc, Γ2),
      fun H' ⟨F', Γ', aV, aD, h1, h2, h3, h4⟩ => ⟨ds.length - (i + 1), by omega, F', Γ', aV, aD, h1, rfl, hlt, h2, h3, h4⟩, fun x H' hy => ?_⟩
    obtain ⟨F2, t, ix⟩ := yl x H' hy
    have S2 := S.step t
    obtain ⟨Γa, eg, rest⟩ := loopL_cons el
    refine ⟨(upd B Dd (.lst accV), F0), F2, Γ, _, ix, S2, ?_⟩
    rw [eg]
    intro F3 H3 σ3 q3 S3 hw3
    rw [wipe_wipe] at hw3
    refine ⟨hw3, (upd B Dd (.lst accV), F0), F3, Γa, S3, ?_⟩
    rcases rest with ⟨Γb, y, Γc, et, ey, hz, el'⟩ | ⟨Γb, et, el'⟩
    · rw [et]
      intro F4 H4 q4 S4
      show if true = true then _ else _
      rw [if_pos rfl]
      refine ⟨(upd B Dd (.lst accV), F0), F4, Γb, S4, ?_⟩
      rw [ey]
      intro F5 H5 q5 S5 v hv
      have hF5 := noD S5
      refine ⟨accV, S5.bh _ _ upd_same, by rw [ia.length]; exact lt_big hz, F5, wipeG Γc vs, accV ++ [v], accD ++ [y], (((q.trans t.ff).trans q3).trans q4).trans q5, ?_, ?_, el'⟩
      · exact (S5.rewipe hio hw3).reside hF5 hBD
      · exact (ia.mono (((t.ff).trans q3).trans (q4.trans q5)) _).append (.cons hv .nil)
    · rw [et]
      intro F4 H4 q4 S4
      show if false = true then _ else _
      rw [if_neg (by simp)]
      exact ⟨F4, wipeG Γb vs, accV, accD, ((q.trans t.ff).trans q3).trans q4, S4.rewipe hio hw3, ia.mono ((t.ff.trans q3).trans q4) _, el'⟩
  · have ed : ds.drop i = [] := List.drop_eq_nil_of_le (by omega)
    rw [ed] at el
    simp only [loopL, Option.some.injEq, Prod.mk.injEq, Except.ok.injEq] at el
    obtain ⟨rfl, rfl⟩ := el
    refine .inl ⟨w2 (by omega), ?_⟩
    have hFD := noD S
    have SB : T.Sat B F0 F Γ (wipe σ vs) H := S.weakB (.up hBD)
    refine r2 F H q (Sat.unwipe S1 SB q) _ ⟨Dd, .lst accV, rfl, hFD, hBD, hD1, .lst ia, fun j d hj hs => ?_⟩
    rcases unwipe_get hj with ⟨_, k2⟩ | ⟨k1, k2⟩
    · unfold keepD at k2; split at k2 <;> cases k2
    · obtain ⟨a, ho, g1, _, g3, _⟩ := S.ow j d k2
      rw [wipe_ne k1] at g1
      rw [g1] at hs; injection hs with hs; injection hs with hs; injection hs with hs; subst hs
      rw [upd_same] at g3; cases g3
theorem dc_core {B F0 F1 : Hp} {Γ1 Γ2 : List Sl} {σ : L2.St} {H1 : Hp} {Q : VK} {vs : List Nat} {ds ksF wsF : List D} {J : It} (hio : ∀ v ∈ vs, NoIo T v) (S1 : T.Sat B F0 F1 Γ1 σ H1) (e : loopDc g ct (cap ck) (cap cv) vs ds [] [] (wipeG Γ1 vs) = some (.ok (ksF, wsF), Γ2)) (hJ : Walk T J F1 ds)
    (r2 : ∀ F' H', Same F1 F' → T.Sat B F0 F' (unwipe Γ1 Γ2 vs) σ H' → ∀ v, IsRf T.X.K T.cm B F' (unwipe Γ1 Γ2 vs) σ H' v (.own (.dic ksF wsF)) → Q v H') : ∀ Dd, H1 Dd = none →
  ∃ W : Nat → Nat → Hp → Prop, (∃ m, W 0 m (upd H1 Dd (.dK []))) ∧ ∀ i m H, W i m H → (J.stop i H ∧ Q (.ref Dd) H) ∨
    (J.go i H ∧ ∃ Nx : Hp → Prop, (∀ H', Nx H' → ∃ m', m' < m ∧ W (i + 1) m' H') ∧ ∀ x H', J.yld i H x H' → (fun v σ' H' Q' => ∃ p : Hp × Hp, tGw (tb T) p.1 p.2 vs g v σ' H' Q') x (wipe σ vs) H' fun σ2 H2 => wipe σ2 vs = wipe σ vs ∧ (fun σ' H' Q' => ∃ p : Hp × Hp, tT (tb T) p.1 p.2 ct σ' H' Q') σ2 H2 fun b H3 =>
      if b = true then (fun σ' H' Q' => ∃ p : Hp × Hp, tD (tb T) p.1 p.2 (cap ck) σ' H' Q') σ2 H3 fun y H4 => (fun σ' H' Q' => ∃ p : Hp × Hp, tD (tb T) p.1 p.2 (cap cv) σ' H' Q') σ2 H4 fun z H5 => ∃ K0 H6, Kinds H5 Dd K0 ∧ DPut K0 Dd y z H6 ∧ Nx H6 else Nx H3) := by
  intro Dd hD
  have hBD : B Dd = none := S1.bh.free hD
  have hF1D : F1 Dd = none := S1.fh.free hD
  have hF0D : F0 Dd = none := S1.f0.free hF1D
  have noD : ∀ {F' : Hp} {Γ' : List Sl} {σ' : L2.St} {H' : Hp} {o : HO}, T.Sat (upd B Dd o) F0 F' Γ' σ' H' → F' Dd = none := fun {F' Γ' σ' H' o} S => by
    cases z : F' Dd with
    | none => rfl
    | some u =>
      rcases S.nw Dd u z with h | h
      · rw [hF0D] at h; cases h
      · rw [upd_same] at h; cases h
  refine ⟨fun i m H => ∃ F Γ ho ks ws, Same F1 F ∧ m = ds.length - i ∧ i ≤ ds.length ∧ T.Sat (upd B Dd ho) F0 F Γ (wipe σ vs) H ∧ OwnIs T.X.K T.cm F ho (.dic ks ws) ∧ loopDc g ct (cap ck) (cap cv) vs (ds.drop i) ks ws Γ = some (.ok (ksF, wsF), Γ2),
    ⟨ds.length, F1, wipeG Γ1 vs, .dK [], [], [], .refl _, by simp, Nat.zero_le _, (S1.wipeW hio).side hF1D (.inl hD), .dK rfl .nil, by simpa using e⟩, ?_⟩
  rintro i m H ⟨F, Γ, ho, ks, ws, q, rfl, hi, S, ia, el⟩
  obtain ⟨w1, w2⟩ := hJ i F H q S.fh
  have hD1 : H Dd = some ho := S.bh _ _ upd_same
  by_cases hlt : i < ds.length
  · rw [List.drop_eq_getElem_cons hlt] at el
    obtain ⟨go, yl⟩ := w1 ds[i] (by simp [hlt])
    refine .inr ⟨go, fun H' => ∃ F Γ ho ks ws, Same F1 F ∧ T.Sat (upd B Dd ho) F0 F Γ (wipe σ vs) H' ∧ OwnIs T.X.K T.cm F ho (.dic ks ws) ∧ loopDc g ct (cap ck) (cap cv) vs (ds.drop (i + 1)) ks ws Γ = some (.ok (ksF, wsF), Γ2),
      fun H' ⟨F', Γ', o', a1, a2, h1, h2, h3, h4⟩ => ⟨ds.length - (i + 1), by omega, F', Γ', o', a1, a2, h1, rfl, hlt, h2, h3, h4⟩, fun x H' hy => ?_⟩
    obtain ⟨F2, t, ix⟩ := yl x H' hy
    have S2 := S.step t
    obtain ⟨Γa, eg, rest⟩ := loopDc_cons el
    refine ⟨(upd B Dd ho, F0), F2, Γ, _, ix, S2, ?_⟩
    rw [eg]
    intro F3 H3 σ3 q3 S3 hw3
    rw [wipe_wipe] at hw3
    refine ⟨hw3, (upd B Dd ho, F0), F3, Γa, S3, ?_⟩
    rcases rest with ⟨Γb, kd, Γc, vd, Γd, et, ek, ev, hok, hz, el'⟩ | ⟨Γb, et, el'⟩
    · rw [et]
      intro F4 H4 q4 S4
      show if true = true then _ else _
      rw [if_pos rfl]
      refine ⟨(upd B Dd ho, F0), F4, Γb, S4, ?_⟩
      rw [ek]
      intro F5 H5 q5 S5 kv hkv
      refine ⟨(upd B Dd ho, F0), F5, Γc, S5, ?_⟩
      rw [ev]
      intro F6 H6 q6 S6 vv hvv
      have hF6 := noD S6
      have q26 : Same F F6 := ((((t.ff).trans q3).trans q4).trans q5).trans q6
      obtain ⟨K0, ho', hk, hp, hw⟩ := dput_of S6.fh (S6.bh _ _ upd_same) (ia.mono q26) (hkv.mono q6 _) hvv hok hz
      exact ⟨K0, _, hk, hp, F6, wipeG Γd vs, ho', ptK ks kd, ptV ks ws kd vd, q.trans q26, (S6.rewipe hio hw3).reside hF6 hBD, hw, el'⟩
    · rw [et]
      intro F4 H4 q4 S4
      show if false = true then _ else _
      rw [if_neg (by simp)]
      exact ⟨F4, wipeG Γb vs, ho, ks, ws, ((q.trans t.ff).trans q3).trans q4, S4.rewipe hio hw3, ia.mono ((t.ff.trans q3).trans q4), el'⟩
  · have ed : ds.drop i = [] := List.drop_eq_nil_of_le (by omega)
    rw [ed] at el
    simp only [loopDc, Option.some.injEq, Prod.mk.injEq, Except.ok.injEq] at el
    obtain ⟨⟨rfl, rfl⟩, rfl⟩ := el
    refine .inl ⟨w2 (by omega), ?_⟩
    have hFD := noD S
    have SB : T.Sat B F0 F Γ (wipe σ vs) H := S.weakB (.up hBD)
    refine r2 F H q (Sat.unwipe S1 SB q) _ ⟨Dd, ho, rfl, hFD, hBD, hD1, ia, fun j d hj hs => ?_⟩
    rcases unwipe_get hj with ⟨_, k2⟩ | ⟨k1, k2⟩
    · unfold keepD at k2; split at k2 <;> cases k2
    · obtain ⟨a, ho, g1, _, g3, _⟩ := S.ow j d k2
      rw [wipe_ne k1] at g1
      rw [g1] at hs; injection hs with hs; injection hs with hs; injection hs with hs; subst hs
      rw [upd_same] at g3; cases g3
theorem isRf_unlock {K : PySem.W.Frag} {cm : Nat → Addr} {B F F2 : Hp} {Γ : List Sl} {σ : L2.St} {H2 : Hp} {a : Addr} {od : Obj} {u : HO} {v : V} {d : D} (sw : SwD F2 (upd F2 a u)) (hF2 : F2 a = some (.frz od u)) (h : IsRf K cm (swA B a (.frz od u)) F2 Γ σ H2 v (.own d)) : IsRf K cm B (upd F2 a u) Γ σ (upd H2 a u) v (.own d) := by
  obtain ⟨b, ho, rfl, h1, h2, h3, h4, h5⟩ := h
  have ne : b ≠ a := fun z => by rw [z, hF2] at h1; cases h1
  exact ⟨b, ho, rfl, by rw [upd_ne ne]; exact h1, by rw [swA_ne ne] at h2; exact h2, by rw [upd_ne ne]; exact h3, h4.sw sw, h5⟩
theorem mut_lock {u : HO} (h : lockO u = true) : Mut (some u) := by
  cases u <;> first | exact True.intro | cases h
/-- the keys are walked over, the dict locked -/
theorem walk_weak {B F0 : Hp} {σ : L2.St} {H : Hp} {Q : VK} {i : Nat} {k : List D → M Rf} {t : TI → TE} (R : VK → It → Hp → Prop) (ht : ∀ (wi : TI) (σ' : L2.St) (H' : Hp) (Q' : VK), σ' = σ → wi σ' H' (R Q') → t wi σ' H' Q')
    (h : tS T B F0 (bnd (sKeys i) k) σ H Q)
    (core : ∀ (B F0 F1 : Hp) (Γ1 Γ2 : List Sl) (H1 : Hp) (Q : VK) (ds : List D) (d : D) (J : It), T.Sat B F0 F1 Γ1 σ H1 → k ds Γ1 = some (.ok (.own d), Γ2) → Walk T J F1 ds → (∀ F' H', Same F1 F' → T.Sat B F0 F' Γ2 σ H' → ∀ v, IsRf T.X.K T.cm B F' Γ2 σ H' v (.own d) → Q v H') → R Q J H1)
    (ok : ∀ (ds : List D) (Γ1 Γ2 : List Sl) r, k ds Γ1 = some (r, Γ2) → ∃ d, r = .ok (.own d)) : tWalkE i t σ H Q := by
  obtain ⟨F, Γ, r⟩ := h
  obtain ⟨F1, Γ1, a, ho, ks, ws, q1, S1, hσ, hr, ow, hl, hat, r1⟩ := keys_run r.bnd
  have r2 := r1 F1 H (.refl _) S1
  have r3 := r2.2
  rcases e : k ks Γ1 with _ | ⟨r0, Γ2⟩
  · simp only [e] at r3
  obtain ⟨d, rfl⟩ := ok _ _ _ _ e
  simp only [e] at r3
  rcases hr with hr | ⟨_, o, hr⟩
  · right
    have hH : H a = some ho := S1.fh _ _ hr
    refine ⟨a, ho, hH, mut_lock hl, fun od => ht _ _ _ _ rfl ⟨.ref a, hσ, a, od, rfl, ?_⟩⟩
    have SL := S1.lock (od := od) hr hl
    obtain ⟨kvs, rfl, w⟩ := walk_dic (T := T) (F := upd F1 a (.frz od ho)) upd_same (ow.sw (swD_lock hr hl)) hl hat
    refine .inl ⟨kvs, upd_same, core _ _ _ _ _ _ _ _ _ _ SL e w fun F' H' q S' v hv => ?_⟩
    obtain ⟨SU, sF, sw, hF2, hH2⟩ := S1.unlock hr hl S' q
    exact ⟨hH2, r3 _ _ sF SU v (isRf_unlock (F := F1) sw hF2 hv)⟩
  · left
    have hH := S1.fh _ _ hr
    obtain ⟨kvs, rfl, w⟩ := walk_dic (T := T) hr ow hl hat
    refine ht _ _ _ _ rfl ⟨.ref a, hσ, a, o, rfl, .inl ⟨kvs, hH, core _ _ _ _ _ _ _ _ _ _ S1 e w r3⟩⟩
theorem lcM_own {vs : List Nat} {ce : M D} (ds : List D) (Γ1 Γ2 : List Sl) (r : Except D Rf) (h : lcM g ct ce vs ds Γ1 = some (r, Γ2)) : ∃ d, r = .ok (.own d) := by
  unfold lcM at h
  split at h
  · cases h; exact ⟨_, rfl⟩
  · cases h
theorem lcM_inv {vs : List Nat} {ce : M D} {ds : List D} {Γ1 Γ2 : List Sl} {d : D} (h : lcM g ct ce vs ds Γ1 = some (.ok (.own d), Γ2)) : ∃ acc Γ3, loopL g ct ce vs ds [] (wipeG Γ1 vs) = some (.ok acc, Γ3) ∧ d = .lst acc ∧ Γ2 = unwipe Γ1 Γ3 vs := by
  unfold lcM at h
  split at h
  · rename_i acc Γ3 e
    cases h; exact ⟨_, _, e, rfl, rfl⟩
  · cases h
theorem dcM_own {vs : List Nat} {ck cv : M D} (ds : List D) (Γ1 Γ2 : List Sl) (r : Except D Rf) (h : dcM g ct ck cv vs ds Γ1 = some (r, Γ2)) : ∃ d, r = .ok (.own d) := by
  unfold dcM at h
  split at h
  · cases h; exact ⟨_, rfl⟩
  · cases h
theorem dcM_inv {vs : List Nat} {ck cv : M D} {ds : List D} {Γ1 Γ2 : List Sl} {d : D} (h : dcM g ct ck cv vs ds Γ1 = some (.ok (.own d), Γ2)) : ∃ ks ws Γ3, loopDc g ct ck cv vs ds [] [] (wipeG Γ1 vs) = some (.ok (ks, ws), Γ3) ∧ d = .dic ks ws ∧ Γ2 = unwipe Γ1 Γ3 vs := by
  unfold dcM at h
  split at h
  · rename_i acc Γ3 e
    cases h; exact ⟨_, _, _, e, rfl, rfl⟩
  · cases h
abbrev gW (T : Tx) (vs : List Nat) (g : D → M Unit) : TG := fun v σ' H' Q' => ∃ p : Hp × Hp, tGw (tb T) p.1 p.2 vs g v σ' H' Q'
abbrev tW (T : Tx) (ct : M Bool) : TT := fun σ' H' Q' => ∃ p : Hp × Hp, tT (tb T) p.1 p.2 ct σ' H' Q'
abbrev dW (T : Tx) (c : M D) : TE := fun σ' H' Q' => ∃ p : Hp × Hp, tD (tb T) p.1 p.2 c σ' H' Q'
theorem lcK_weak {B F0 : Hp} {σ : L2.St} {H : Hp} {Q : VK} {i : Nat} {vs : List Nat} (hio : ∀ v ∈ vs, NoIo T v) (h : tS T B F0 (sLc vs (sKeys i) g ct ce) σ H Q) : tWalkE i (fun wi => tLc wi (gW T vs g) (tW T ct) (dW T (cap ce)) vs) σ H Q :=
  walk_weak (t := fun wi => tLc wi (gW T vs g) (tW T ct) (dW T (cap ce)) vs) (fun Q J H1 => ∀ Dd, H1 Dd = none → ∃ W : Nat → Nat → Hp → Prop, (∃ m, W 0 m (upd H1 Dd (.lst []))) ∧ ∀ i m H, W i m H →
  (J.stop i H ∧ Q (.ref Dd) H) ∨ (J.go i H ∧ ∃ Nx : Hp → Prop, (∀ H', Nx H' → ∃ m', m' < m ∧ W (i + 1) m' H') ∧ ∀ x H', J.yld i H x H' → gW T vs g x (wipe σ vs) H' fun σ2 H2 => wipe σ2 vs = wipe σ vs ∧ tW T ct σ2 H2 fun b H3 =>
    if b = true then dW T (cap ce) σ2 H3 fun y H4 => ∃ acc, H4 Dd = some (.lst acc) ∧ acc.length < sizeLine ∧ Nx (upd H4 Dd (.lst (acc ++ [y]))) else Nx H3)) (fun wi σ' H' Q' e q => by subst e; exact q) h
    (fun B F0 F1 Γ1 Γ2 H1 Q ds d J S e w r => by
      obtain ⟨acc, Γ3, e', rfl, rfl⟩ := lcM_inv e
      exact lc_core hio S e' w r) lcM_own
theorem dcK_weak {B F0 : Hp} {σ : L2.St} {H : Hp} {Q : VK} {i : Nat} {vs : List Nat} (hio : ∀ v ∈ vs, NoIo T v) (h : tS T B F0 (sDc vs (sKeys i) g ct ck cv) σ H Q) : tWalkE i (fun wi => tDg wi (gW T vs g) (tW T ct) (dW T (cap ck)) (dW T (cap cv)) vs) σ H Q :=
  walk_weak (t := fun wi => tDg wi (gW T vs g) (tW T ct) (dW T (cap ck)) (dW T (cap cv)) vs) (fun Q J H1 => ∀ D0, H1 D0 = none →
  ∃ W : Nat → Nat → Hp → Prop, (∃ m, W 0 m (upd H1 D0 (.dK []))) ∧ ∀ i m H, W i m H → (J.stop i H ∧ Q (.ref D0) H) ∨
    (J.go i H ∧ ∃ Nx : Hp → Prop, (∀ H', Nx H' → ∃ m', m' < m ∧ W (i + 1) m' H') ∧ ∀ x H', J.yld i H x H' → gW T vs g x (wipe σ vs) H' fun σ2 H2 => wipe σ2 vs = wipe σ vs ∧ tW T ct σ2 H2 fun b H3 =>
      if b = true then dW T (cap ck) σ2 H3 fun y H4 => dW T (cap cv) σ2 H4 fun z H5 => ∃ K0 H6, Kinds H5 D0 K0 ∧ DPut K0 D0 y z H6 ∧ Nx H6 else Nx H3)) (fun wi σ' H' Q' e q => by subst e; exact q) h
    (fun B F0 F1 Γ1 Γ2 H1 Q ds d J S e w r => by
      obtain ⟨ks, ws, Γ3, e', rfl, rfl⟩ := dcM_inv e
      exact dc_core hio S e' w r) dcM_own
theorem re_lcK {k : Nat} (i : Nat) (own : List (Str × Nat)) {x : Str} (c : Cok T k) (hg : ∀ (s : Shared) (H : Hp) (C : Addr) (cl : List (Str × Addr)) (fp : List Addr), RGw (T.blk s H scope (compEnvC scope cl C T.X.env) fp) (own.map (·.2)) tg g)
    (ht : ∀ (s : Shared) (H : Hp) (C : Addr) (cl : List (Str × Addr)) (fp : List Addr), RTs (T.blk s H scope (compEnvC scope cl C T.X.env) fp) ifs ct) (he : ∀ (s : Shared) (H : Hp) (C : Addr) (cl : List (Str × Addr)) (fp : List Addr), RE (T.blk s H scope (compEnvC scope cl C T.X.env) fp) elt ce)
    (hN : T.X.N[i]? = some x := by rfl) (hv : Vis T.X.env.scope x := by first | exact Or.inl rfl | exact Or.inr (Or.inl rfl) | exact Or.inr (Or.inr rfl)) (hd : (x == ("__debug__" : Str)) = false := by decide) (hcd : (x == ("__classdict__" : Str)) = false := by decide)
    (ok : blkC T.X.N T.X.env.scope scope own = true := by decide +kernel) (hio : ∀ v ∈ own.map (·.2), NoIo T v := by intro v hv; first | exact Or.inl rfl | (refine Or.inr ?_; simp only [List.map_cons, List.map_nil, List.mem_cons, List.not_mem_nil, or_false] at hv; omega))
    (hs : ∀ y, foldedSetIterable (.Name x py) T.X.env y = pure y := by intro _; rfl) : RE T (.ListComp elt [⟨tg, .Name x py, ifs, 0⟩] scope pos) (sLc (own.map (·.2)) (sKeys i) g ct ce) := fun B F0 =>
  (pe_walkE (i := i) (t := fun wi => tLc wi (gW T (own.map (·.2)) g) (tW T ct) (dW T (cap ce)) (own.map (·.2)))
    (pe_lc c.calm c.nd (pi_keys (pe_var hN hv hd hcd)) (blkOk_by ok) (fun s H C cl fp => pg_ex fun p => hg s H C cl fp p.1 p.2) (fun s H C cl fp => pts_ex fun p => ht s H C cl fp p.1 p.2) (fun s H C cl fp => pe_ex fun p => rd_of (he s H C cl fp) p.1 p.2) hs)).weak fun σ H Q h =>
    lcK_weak hio h
theorem re_dcK {k : Nat} (i : Nat) (own : List (Str × Nat)) {x : Str} (c : Cok T k) (hg : ∀ (s : Shared) (H : Hp) (C : Addr) (cl : List (Str × Addr)) (fp : List Addr), RGw (T.blk s H scope (compEnvC scope cl C T.X.env) fp) (own.map (·.2)) tg g)
    (ht : ∀ (s : Shared) (H : Hp) (C : Addr) (cl : List (Str × Addr)) (fp : List Addr), RTs (T.blk s H scope (compEnvC scope cl C T.X.env) fp) ifs ct) (hk : ∀ (s : Shared) (H : Hp) (C : Addr) (cl : List (Str × Addr)) (fp : List Addr), RE (T.blk s H scope (compEnvC scope cl C T.X.env) fp) kx ck)
    (hv : ∀ (s : Shared) (H : Hp) (C : Addr) (cl : List (Str × Addr)) (fp : List Addr), RE (T.blk s H scope (compEnvC scope cl C T.X.env) fp) vx cv)
    (hN : T.X.N[i]? = some x := by rfl) (hvi : Vis T.X.env.scope x := by first | exact Or.inl rfl | exact Or.inr (Or.inl rfl) | exact Or.inr (Or.inr rfl)) (hd : (x == ("__debug__" : Str)) = false := by decide) (hcd : (x == ("__classdict__" : Str)) = false := by decide)
    (ok : blkC T.X.N T.X.env.scope scope own = true := by decide +kernel) (hio : ∀ v ∈ own.map (·.2), NoIo T v := by intro v hv; first | exact Or.inl rfl | (refine Or.inr ?_; simp only [List.map_cons, List.map_nil, List.mem_cons, List.not_mem_nil, or_false] at hv; omega))
    (hs : ∀ y, foldedSetIterable (.Name x py) T.X.env y = pure y := by intro _; rfl) : RE T (.DictComp kx vx [⟨tg, .Name x py, ifs, 0⟩] scope pos) (sDc (own.map (·.2)) (sKeys i) g ct ck cv) := fun B F0 =>
  (pe_walkE (i := i) (t := fun wi => tDg wi (gW T (own.map (·.2)) g) (tW T ct) (dW T (cap ck)) (dW T (cap cv)) (own.map (·.2)))
    (pe_dg (units_ok c) c.calm c.nd (pi_keys (pe_var hN hvi hd hcd)) (blkOk_by ok) ⟨fun s H C cl fp => pg_ex fun p => hg s H C cl fp p.1 p.2, fun s H C cl fp => pts_ex fun p => ht s H C cl fp p.1 p.2, fun s H C cl fp => pe_ex fun p => rd_of (hk s H C cl fp) p.1 p.2, fun s H C cl fp => pe_ex fun p => rd_of (hv s H C cl fp) p.1 p.2⟩ hs)).weak fun σ H Q h =>
    dcK_weak hio h
/-! ### d.get(k, e) -/
def okGetE (ks : List D) (x : D) : Bool := (atomK x && ks.all atomK) || (tupK x && ks.all tupK)
def getD3 : List D → Option Rf
  | [.dic ks vs, x, y] => if okGetE ks x then some (.dat ((lkD ks vs x).getD y)) else none
  | _ => none
def DGetE (H : Hp) (a : Addr) (y : V) (o : Option V) : Prop := DGet H a y o ∨ ∃ H0, Kinds H a H0 ∧ DGet H0 a y o
def tDGetE (td ty tx : TE) : TE := fun σ H Q => td σ H fun x H1 => ∃ a, x = .ref a ∧ IsD H1 a ∧ ty σ H1 fun y H2 => tx σ H2 fun z H3 => ∃ o, DGetE H3 a y o ∧ Q (o.getD z) H3
theorem kinds_back {X : Cx} {pins : List (Addr × Obj)} {σ : L2.St} {H H0 : Hp} {s : Shared} {a : Addr} (hk : Kinds H a H0) (I : Inv X pins σ H0 s) : Inv X pins σ H s := by
  rcases hk with rfl | ⟨e, rfl⟩ | ⟨e, rfl⟩
  · exact I
  · have := empty_t I upd_same
    rwa [upd_upd, upd_self e] at this
  · have := empty_k I upd_same
    rwa [upd_upd, upd_self e] at this
theorem kinds_to {X : Cx} {pins : List (Addr × Obj)} {σ : L2.St} {H H0 : Hp} {s : Shared} {a : Addr} (hk : Kinds H a H0) (I : Inv X pins σ H s) : Inv X pins σ H0 s := by
  rcases hk with rfl | ⟨e, rfl⟩ | ⟨e, rfl⟩
  · exact I
  · exact empty_k I e
  · exact empty_t I e
theorem pe_dgetE {X : Cx} {o e f : Expr} {apos cpos : Pos} {td ty tx : TE} (hu : X.A.units + 1 < cLine) (ho : PE X o td) (he : PE X e ty) (hf : PE X f tx) (m : M2 X o "get" apos e f cpos) : PE X (.Call (.Attribute o "get" apos) [e, f] [] cpos) (tDGetE td ty tx) := by
  refine ⟨fun pins s σ H Q I h => ?_⟩
  refine wpAny_Call_method m.base m.few m.line PySem.F.plainAttrs_dict PySem.F.slot_dict_get PySem.F.type_dict_get (thn (ho.run pins s σ H _ I h) fun u s1 ⟨x, H1, I1, rx, a, ex, d, q1⟩ => ?_)
  subst ex
  obtain rfl : u = Value.ref a := rx
  obtain ⟨t1, t2, _⟩ := isD_at I1 d
  refine ⟨t1, t2, ?_⟩
  rw [m.trees]
  refine Calls.callWith_builtin rfl (Calls.evalArgs_plain (Calls.spliced_cons (thn (he.run pins s1 σ H1 _ I1 q1) fun iv s2 ⟨y, H2, I2, ry, q2⟩ =>
    Calls.spliced_cons (thn (hf.run pins s2 σ H2 _ I2 q2) fun fv s3 ⟨z, H3, I3, rz, ov, g, q3⟩ => Calls.spliced_nil ?_))))
  rcases g with g | ⟨H0, hk, g⟩
  · exact d_get2 hu I3 g ry rz fun w' s4 I4 rw' => ⟨_, H3, I4, rw', q3⟩
  · exact d_get2 hu (kinds_to hk I3) g ry rz fun w' s4 I4 rw' => ⟨_, H3, kinds_back hk I4, rw', q3⟩
end
section
variable {K : PySem.W.Frag} {cm : Nat → Addr} {F H : Hp}
theorem dget_ofE {v y : V} {ks vs : List D} {x : D} (fh : Same F H) (i : IsT K cm F H v (.dic ks vs)) (iy : DL.Is K cm F y x) (ok : okGetE ks x = true) : ∃ a o, v = .ref a ∧ DGetE H a y o ∧ (∀ d, lkD ks vs x = some d → ∃ r, o = some r ∧ DL.Is K cm F r d) ∧ (lkD ks vs x = none → o = none) := by
  obtain ⟨a, ho, rfl, ha, hs⟩ := i.dic fh
  have no : ∀ {κ : Type} [DecidableEq κ] {enc : κ → D} {kvs : List (κ × V)} {vs : List D} {k : κ}, (∀ a b, kE (enc a) (enc b) = decide (a = b)) → IsAll K cm F (kvs.map (·.2)) vs → lkD (kvs.map fun p => enc p.1) vs (enc k) = none → valV kvs k = none := by
    intro κ _ enc kvs
    induction kvs with
    | nil => intro vs k he i h; rfl
    | cons p kvs ih =>
      intro vs k he i h
      cases vs with
      | nil => cases i
      | cons w vs =>
        cases i with
        | cons i is =>
          simp only [List.map_cons, lkD, he] at h
          by_cases e : p.1 = k
          · rw [decide_eq_true e, if_pos rfl] at h; cases h
          · rw [decide_eq_false e, if_neg (by simp)] at h
            rw [valV_neg e]
            exact ih he is h
  unfold okGetE at ok
  simp only [Bool.and_eq_true, Bool.or_eq_true] at ok
  rcases ok with ⟨h1, h2⟩ | ⟨h1, h2⟩
  · obtain ⟨κ, rfl⟩ := atom_key h1
    obtain rfl := is_key (H := H) (.inl iy)
    cases hs with
    | @dK kvs _ _ hk hv =>
      subst hk
      exact ⟨a, valV kvs κ, rfl, .inl (.inl ⟨kvs, κ, ha.rd, rfl, rfl⟩), fun d e => lk_of kE_key hv e, no kE_key hv⟩
    | @dT kvs _ _ hk hv =>
      subst hk
      cases kvs with
      | cons p kvs =>
        simp only [List.map_cons, List.all_cons, Bool.and_eq_true] at h2
        cases h2.1
      | nil =>
        cases hv
        exact ⟨a, none, rfl, .inr ⟨_, .inr (.inl ⟨ha.flat rfl, rfl⟩), .inl ⟨[], κ, .inl upd_same, rfl, rfl⟩⟩, (fun d e => nomatch e), fun _ => rfl⟩
  · cases x with
    | tup ds =>
      obtain ⟨κs, rfl⟩ := atoms_keys h1
      obtain ⟨b, ws, rfl, hb, hw⟩ := IsT.tupD (H := H) (.inl iy)
      obtain rfl := are_keys hw
      have hb' := fh _ _ hb
      cases hs with
      | @dT kvs _ _ hk hv =>
        subst hk
        exact ⟨a, valV kvs κs, rfl, .inl (.inr ⟨kvs, κs, b, ha.rd, rfl, hb', rfl⟩), fun d e => lk_of (enc := fun p => D.tup (p.map keyD)) kE_keys hv e, no (enc := fun p => D.tup (p.map keyD)) kE_keys hv⟩
      | @dK kvs _ _ hk hv =>
        subst hk
        cases kvs with
        | cons p kvs =>
          simp only [List.map_cons, List.all_cons, Bool.and_eq_true] at h2
          have := h2.1
          rcases hp : p.1 with i | x <;> rw [hp] at this <;> cases this
        | nil =>
          cases hv
          have ha' := ha.flat rfl
          refine ⟨a, none, rfl, .inr ⟨_, .inr (.inr ⟨ha', rfl⟩), .inr ⟨[], κs, b, .inl upd_same, rfl, ?_, rfl⟩⟩, (fun d e => nomatch e), fun _ => rfl⟩
          rw [upd_ne (fun z => by rw [z, ha'] at hb'; cases hb')]
          exact hb'
    | _ => cases h1
end
def isDicD : Option D → Bool
  | some (.dic _ _) => true
  | _ => false
def chkD (x : Rf) : M Unit := fun Γ => if isDicD (rsv Γ x) then some (.ok (), Γ) else none
def appG (x : Rf) (k y : D) : M Rf := fun Γ => match rsv Γ x with
  | some d => lift (getD3 [d, k, y]) Γ
  | none => none
/-- o.get(e, f) -/
def sGet (a b c : M Rf) : M Rf := bnd (opnd a) fun x => bnd (chkD x) fun _ => bnd (cap b) fun k => bnd (cap c) fun y => appG x k y
section
variable {T : Tx} {o e f : Expr} {co ce cf : M Rf} {apos cpos : Pos} {k : Nat}
theorem re_get (ck : Cok T k) (ho : RE T o co) (he : RE T e ce) (hf : RE T f cf) (m : M2 T.X o "get" apos e f cpos := by exact ⟨rfl, rfl, rfl, rfl⟩) : RE T (.Call (.Attribute o "get" apos) [e, f] [] cpos) (sGet co ce cf) := fun B F0 =>
  (pe_dgetE (units_ok ck) (re_opnd ho B F0) (rd_of he B F0) (rd_of hf B F0) m).weak fun σ H Q ⟨F, Γ, r⟩ => by
    refine ⟨F, Γ, r.bnd.mono fun x F1 Γ1 H1 q1 S1 r1 v hv => ?_⟩
    obtain ⟨_, r1⟩ := r1.bnd
    unfold chkD at r1
    by_cases hd : isDicD (rsv Γ1 x) = true
    · simp only [if_pos hd] at r1
      obtain ⟨ks1, vs1, e1⟩ : ∃ ks vs, rsv Γ1 x = some (.dic ks vs) := by
        rcases q : rsv Γ1 x with _ | d
        · rw [q] at hd; cases hd
        · rw [q] at hd
          cases d <;> first | exact ⟨_, _, rfl⟩ | cases hd
      have i1 := hv.rsv (.refl _) S1 e1
      obtain ⟨a, ho1, rfl, ha1, hs1⟩ := i1.dic S1.fh
      have isd : IsD H1 a := by
        cases hs1 with
        | dK _ _ => exact .inl ⟨_, ha1.rd⟩
        | dT _ _ => exact .inr ⟨_, ha1.rd⟩
      refine ⟨a, rfl, isd, F1, Γ1, (r1 F1 H1 (.refl _) S1).bnd.mono fun kd F2 Γ2 H2 q2 S2 r2 kv hkv => ⟨F2, Γ2, r2.bnd.mono fun yd F3 Γ3 H3 q3 S3 r3 yv hyv => ?_⟩⟩
      have r4 := r3
      unfold appG at r4
      obtain ⟨_, r4⟩ := r4
      rcases q : rsv Γ3 x with _ | d
      · simp only [q] at r4
      · simp only [q] at r4
        have i3 := hv.rsv (q2.trans q3) S3 q
        have hres := Run.lift (Γ := Γ3) ⟨S3, r4⟩
        cases d with
        | dic ks vs =>
          simp only [getD3] at hres
          split at hres
          · rename_i ok
            obtain ⟨a', o', ea, hg, h1, h2⟩ := dget_ofE S3.fh i3 (hkv.mono q3 _) ok
            cases ea
            refine ⟨o', hg, ?_⟩
            rcases l : lkD ks vs kd with _ | d
            · rw [h2 l]
              rw [l] at hres
              exact hres.val S3.fh hyv
            · obtain ⟨w, rfl, iw⟩ := h1 d l
              rw [l] at hres
              exact hres.val S3.fh iw
          · exact hres.elim
        | _ => exact hres.elim
    · simp only [if_neg hd] at r1
end
/-! ### dict(pairs), dict(d) -/
def dpF : List D → List D → List D → Option (List D × List D)
  | [], ks, vs => some (ks, vs)
  | .tup [k, v] :: ps, ks, vs => if atomK k then dpF ps (ptK ks k) (ptV ks vs k v) else none
  | _, _, _ => none
def dictF : List D → Option Rf
  | [.lst ps] => (dpF ps [] []).map fun p => .own (.dic p.1 p.2)
  | [.dic ks vs] => if ks.all atomK && !ks.isEmpty then some (.own (.dic ks vs)) else none
  | _ => none
section
variable {K : PySem.W.Frag} {cm : Nat → Addr} {F H : Hp}
theorem pairs_dp (fh : Same F H) : ∀ {ds : List D} {vs : List V} {ks ws ks' ws' : List D}, IsAll K cm F vs ds → dpF ds ks ws = some (ks', ws') → ∃ (ps : List Addr) (kvs : List (Key × V)), vs = ps.map V.ref ∧ Paired (fun p kv => SqT K H p [kV kv.1, kv.2]) ps kvs ∧
    ∀ acc : List (Key × V), acc.map (fun p => keyD p.1) = ks → IsAll K cm F (acc.map (·.2)) ws → (mergeK acc kvs).map (fun p => keyD p.1) = ks' ∧ IsAll K cm F ((mergeK acc kvs).map (·.2)) ws'
  | [], vs, ks, ws, ks', ws', i, h => by
    cases i
    cases h
    exact ⟨[], [], rfl, .nil, fun acc e1 e2 => ⟨e1, e2⟩⟩
  | d :: ds, vs, ks, ws, ks', ws', i, h => by
    cases i with
    | @cons v vs _ _ i is =>
      unfold dpF at h
      split at h
      · rename_i e; cases e
      · rename_i k w ps _ _ e
        cases e
        split at h
        · rename_i hk
          obtain ⟨κ, rfl⟩ := atom_key hk
          obtain ⟨b, us, rfl, hb, hu⟩ := IsT.tupD (H := H) (.inl i)
          cases hu with
          | @cons ku _ _ _ i1 hu =>
            cases hu with
            | @cons wu _ _ _ i2 hu =>
              cases hu
              obtain rfl := is_key (H := H) (.inl i1)
              obtain ⟨ps', kvs, e1, e2, e3⟩ := pairs_dp fh is h
              refine ⟨b :: ps', (κ, wu) :: kvs, by rw [e1]; rfl, .cons (.of (fh _ _ hb)) e2, fun acc a1 a2 => ?_⟩
              subst a1
              have z := put_of (k := κ) kE_key i2 a2
              exact e3 (putK acc κ wu) z.1 z.2
        · cases h
      · cases h
end
theorem call_dictF {T : Tx} (hc : T.X.calm = true) : CallD T (.type "dict") dictF := by
  intro pins s σ H vs us Q I r ⟨F, ds, fh, at_, h⟩
  match ds, at_, h with
  | [.lst ps], at_, h =>
    obtain ⟨v, rfl, i⟩ := at_.one
    simp only [dictF] at h
    rcases e : dpF ps [] [] with _ | ⟨ks, ws⟩
    · simp only [e, Option.map_none] at h; exact h.elim
    · simp only [e, Option.map_some] at h
      obtain ⟨a, xs, rfl, g1, g2⟩ := i.lst fh
      obtain ⟨as, kvs, rfl, g3, g4⟩ := pairs_dp fh g2 e
      obtain ⟨z1, z2⟩ := g4 [] rfl .nil
      exact call_dictP hc pins s σ H _ us Q I r ⟨a, as, kvs, rfl, g1, g3, fun p n => h _ _ _ _ (.newOwn fh n) n (fh.free n) upd_same (.dK z1 z2)⟩
  | [.dic ks ws], at_, h =>
    obtain ⟨v, rfl, i⟩ := at_.one
    simp only [dictF] at h
    split at h
    · rename_i ok
      simp only [Bool.and_eq_true, Bool.not_eq_true'] at ok
      obtain ⟨a, ho, rfl, ha, hs⟩ := i.dic fh
      cases hs with
      | @dK kvs _ _ hk hv => exact call_dictD pins s σ H _ us Q I r ⟨a, kvs, rfl, ha.rd, fun p n => h _ _ _ _ (.newOwn fh n) n (fh.free n) upd_same (.dK hk hv)⟩
      | @dT kvs _ _ hk hv =>
        subst hk
        cases kvs with
        | nil => cases ok.2
        | cons p kvs =>
          simp only [List.map_cons, List.all_cons, Bool.and_eq_true] at ok
          cases ok.1.1
    · exact h.elim
end DL

/-! EV: the terms are run on data: equations of each word at a state. -/
namespace DL
open PySem L2
section
variable {α β : Type} {Γ : List Sl}
@[simp] theorem ret_ap (a : α) : ret a Γ = some (.ok a, Γ) := rfl
theorem bnd_ap (m : M α) (k : α → M β) : bnd m k Γ = match m Γ with
  | none => none
  | some (.error e, Γ') => some (.error e, Γ')
  | some (.ok a, Γ') => k a Γ' := rfl
@[simp] theorem fail_ap : (fail : M α) Γ = none := rfl
@[simp] theorem throw_ap (e : D) : (throw' e : M α) Γ = some (.error e, Γ) := rfl
@[simp] theorem sVar_ap (i : Nat) : sVar i Γ = match Γ[i]? with
  | some (.dat d) => some (.ok (.dat d), Γ)
  | some (.own _) => some (.ok (.slot i), Γ)
  | _ => none := rfl
@[simp] theorem sK_ap (d : D) : sK d Γ = some (.ok (.dat d), Γ) := rfl
@[simp] theorem opnd_ap (c : M Rf) : opnd c Γ = bnd c (fun r => ret (opR r)) Γ := rfl
@[simp] theorem cap_ap (c : M Rf) : cap c Γ = bnd c capR Γ := rfl
@[simp] theorem capR_dat (d : D) : capR (.dat d) Γ = some (.ok d, Γ) := rfl
@[simp] theorem capR_own (d : D) : capR (.own d) Γ = some (.ok d, Γ) := rfl
@[simp] theorem capR_slot (i : Nat) : capR (.slot i) Γ = match Γ[i]? with
    | some (.own d) => some (.ok d, Γ.set i (.dat d))
    | _ => none := rfl
@[simp] theorem opR_dat (d : D) : opR (.dat d) = .dat d := rfl
@[simp] theorem opR_own (d : D) : opR (.own d) = .dat d := rfl
@[simp] theorem opR_slot (i : Nat) : opR (.slot i) = .slot i := rfl
@[simp] theorem rsv_dat (d : D) : rsv Γ (.dat d) = some d := rfl
@[simp] theorem rsv_own (d : D) : rsv Γ (.own d) = none := rfl
@[simp] theorem rsv_slot (i : Nat) : rsv Γ (.slot i) = match Γ[i]? with
    | some (.own d) => some d
    | some (.dat d) => some d
    | _ => none := rfl
@[simp] theorem lift_dat (d : D) : lift (some (.dat d)) Γ = some (.ok (.dat d), Γ) := rfl
@[simp] theorem lift_own (d : D) : lift (some (.own d)) Γ = some (.ok (.own d), Γ) := rfl
@[simp] theorem lift_none : lift none Γ = none := rfl
@[simp] theorem sBin_ap (f : D → D → Option Rf) (a b : M Rf) : sBin f a b Γ = bnd (opnd a) (fun x => bnd (opnd b) fun y => app2 f x y) Γ := rfl
@[simp] theorem app2_ap (f : D → D → Option Rf) (x y : Rf) : app2 f x y Γ = match rsv Γ x, rsv Γ y with
  | some d, some e => lift (f d e) Γ
  | _, _ => none := rfl
@[simp] theorem asB_bl (b : Bool) : asB (.dat (.bl b)) = ret b := rfl
@[simp] theorem sB_ap (c : M Rf) : sB c Γ = bnd c asB Γ := rfl
@[simp] theorem sChain_ap (f g : D → D → Option Rf) (a b c : M Rf) : sChain f g a b c Γ = bnd (opnd a) (fun x => bnd (opnd b) fun y => bnd (app2 f x y) fun r => bnd (asB r) fun k =>
  if k then bnd (opnd c) fun z => app2 g y z else ret (.dat (.bl false))) Γ := rfl
@[simp] theorem sAndT_ap (a b : M Bool) : sAndT a b Γ = bnd a (fun k => if k then b else ret false) Γ := rfl
@[simp] theorem sOrT_ap (a b : M Bool) : sOrT a b Γ = bnd a (fun k => if k then ret true else b) Γ := rfl
@[simp] theorem sNotT_ap (a : M Bool) : sNotT a Γ = bnd a (fun k => ret !k) Γ := rfl
@[simp] theorem sAndV_ap (a b : M Rf) : sAndV a b Γ = bnd (sB a) (fun k => if k then b else ret (.dat (.bl false))) Γ := rfl
@[simp] theorem sOrV_ap (a b : M Rf) : sOrV a b Γ = bnd (sB a) (fun k => if k then ret (.dat (.bl true)) else b) Γ := rfl
@[simp] theorem sNotV_ap (a : M Rf) : sNotV a Γ = bnd (sB a) (fun k => ret (.dat (.bl !k))) Γ := rfl
@[simp] theorem sIfE_ap (t : M Bool) (a b : M Rf) : sIfE t a b Γ = bnd t (fun k => if k then a else b) Γ := rfl
@[simp] theorem sIsN_ap (c : M Rf) : sIsN c Γ = bnd c (fun r => ret (.dat (.bl (isN r)))) Γ := rfl
@[simp] theorem sNotN_ap (c : M Rf) : sNotN c Γ = bnd c (fun r => ret (.dat (.bl !isN r))) Γ := rfl
@[simp] theorem sIsT_ap (c : M Rf) : sIsT c Γ = bnd c (fun r => ret (isN r)) Γ := rfl
@[simp] theorem sNotNT_ap (c : M Rf) : sNotNT c Γ = bnd c (fun r => ret !isN r) Γ := rfl
@[simp] theorem sNil_ap : sNil Γ = some (.ok [], Γ) := rfl
@[simp] theorem sCons_ap (a : M D) (r : M (List D)) : sCons a r Γ = bnd a (fun d => bnd r fun ds => ret (d :: ds)) Γ := rfl
@[simp] theorem sTup_ap (c : M (List D)) : sTup c Γ = bnd c (fun ds => lift (mkTup ds)) Γ := rfl
@[simp] theorem sLst_ap (c : M (List D)) : sLst c Γ = bnd c (fun ds => lift (mkLst ds)) Γ := rfl
@[simp] theorem oNil_ap : oNil Γ = some (.ok [], Γ) := rfl
@[simp] theorem oCons_ap (a : M Rf) (r : M (List Rf)) : oCons a r Γ = bnd (opnd a) (fun d => bnd r fun ds => ret (d :: ds)) Γ := rfl
@[simp] theorem rsvs_nil : rsvs Γ [] = some [] := rfl
@[simp] theorem rsvs_cons (r : Rf) (rs : List Rf) : rsvs Γ (r :: rs) = match rsv Γ r, rsvs Γ rs with
    | some d, some ds => some (d :: ds)
    | _, _ => none := rfl
@[simp] theorem appN_ap (f : List D → Option Rf) (rs : List Rf) : appN f rs Γ = match rsvs Γ rs with
  | some ds => lift (f ds) Γ
  | none => none := rfl
@[simp] theorem sCB_ap (f : List D → Option Rf) (c : M (List Rf)) : sCB f c Γ = bnd c (appN f) Γ := rfl
@[simp] theorem sNeg_ap (c : M Rf) : sNeg c Γ = bnd (opnd c) (fun r => match r with
  | .dat (.int i) => ret (.dat (.int (-i)))
  | _ => fail) Γ := rfl
@[simp] theorem sSkip_ap : sSkip Γ = some (.ok .nx, Γ) := rfl
@[simp] theorem sSeq_ap (a b : M Fl) : sSeq a b Γ = bnd a (fun f => match f with
  | .nx => b
  | f => ret f) Γ := rfl
@[simp] theorem sIf_ap (t : M Bool) (a b : M Fl) : sIf t a b Γ = bnd t (fun k => if k then a else b) Γ := rfl
@[simp] theorem sDrop_ap (c : M Rf) : sDrop c Γ = bnd c (fun _ => ret .nx) Γ := rfl
@[simp] theorem sRet_ap (c : M Rf) : sRet c Γ = bnd c (fun r => ret (.rt r)) Γ := rfl
@[simp] theorem gSet_ap (i : Nat) (d : D) : gSet i d Γ = if i < Γ.length then some (.ok (), Γ.set i (.dat d)) else none := rfl
@[simp] theorem gOwn_ap (i : Nat) (d : D) : gOwn i d Γ = if i < Γ.length then some (.ok (), Γ.set i (.own d)) else none := rfl
@[simp] theorem stR_dat (i : Nat) (d : D) : stR i (.dat d) = gSet i d := rfl
@[simp] theorem stR_own (i : Nat) (d : D) : stR i (.own d) = gOwn i d := rfl
@[simp] theorem stR_slot (i j : Nat) : stR i (.slot j) = bnd (capR (.slot j)) (gSet i) := rfl
@[simp] theorem sSet_ap (i : Nat) (c : M Rf) : sSet i c Γ = bnd c (fun r => bnd (stR i r) fun _ => ret .nx) Γ := rfl
@[simp] theorem gNone_nil : gNone [] = ret () := rfl
@[simp] theorem gMore_cons (g : D → M Unit) (gs : List D → M Unit) (d : D) (ds : List D) : gMore g gs (d :: ds) = bnd (g d) fun _ => gs ds := rfl
@[simp] theorem gTupD_tup (n : Nat) (gs : List D → M Unit) (ds : List D) : gTupD n gs (.tup ds) = if ds.length = n then gs ds else fail := rfl
@[simp] theorem sAsg_ap (g : D → M Unit) (c : M Rf) : sAsg g c Γ = bnd (cap c) (fun d => bnd (g d) fun _ => ret .nx) Γ := rfl
@[simp] theorem gIx_ap (a b : M Rf) (d : D) : gIx a b d Γ = bnd a (fun r => bnd (cap b) fun k => bnd (lendA setM r [k, d]) fun _ => ret ()) Γ := rfl
@[simp] theorem lendA_slot (φ : Fm) (i : Nat) (ds : List D) : lendA φ (.slot i) ds Γ = lendX φ i ds Γ := rfl
@[simp] theorem lendX_ap (φ : Fm) (i : Nat) (ds : List D) : lendX φ i ds Γ = match Γ[i]? with
  | some (.own d0) => match φ d0 ds with
    | some (.ok (.dat d), d1) => some (.ok (.dat d), Γ.set i (.own d1))
    | some (.ok (.own d), d1) => some (.ok (.own d), Γ.set i (.own d1))
    | some (.error e, d1) => some (.error e, Γ.set i (.own d1))
    | _ => none
  | _ => none := rfl
@[simp] theorem rNil_ap : rNil Γ = some (.ok [], Γ) := rfl
@[simp] theorem rCons_ap (a : M Rf) (r : M (List Rf)) : rCons a r Γ = bnd a (fun x => bnd r fun xs => ret (x :: xs)) Γ := rfl
@[simp] theorem stAll_nil : stAll [] [] Γ = some (.ok (), Γ) := rfl
@[simp] theorem stAll_cons (i : Nat) (is : List Nat) (r : Rf) (rs : List Rf) : stAll (i :: is) (r :: rs) Γ = bnd (stR i r) (fun _ => stAll is rs) Γ := rfl
@[simp] theorem sPar_ap (is : List Nat) (c : M (List Rf)) : sPar is c Γ = bnd c (fun rs => if noSlot is rs then bnd (stAll is rs) fun _ => ret .nx else fail) Γ := rfl
@[simp] theorem noSlot_nil (is : List Nat) : noSlot is [] = true := rfl
@[simp] theorem noSlot_dat (is : List Nat) (d : D) (rs : List Rf) : noSlot is (.dat d :: rs) = noSlot is rs := rfl
@[simp] theorem noSlot_own (is : List Nat) (d : D) (rs : List Rf) : noSlot is (.own d :: rs) = noSlot is rs := rfl
@[simp] theorem noSlot_slot (is : List Nat) (j : Nat) (rs : List Rf) : noSlot is (.slot j :: rs) = (!is.contains j && noSlot is rs) := rfl
@[simp] theorem sFor_ap (c : M (List D)) (g : D → M Unit) (b : M Fl) : sFor c g b Γ = bnd c (loopF g b) Γ := rfl
@[simp] theorem loopF_nil (g : D → M Unit) (b : M Fl) : loopF g b [] Γ = some (.ok .nx, Γ) := rfl
theorem loopF_cons (g : D → M Unit) (b : M Fl) (d : D) (ds : List D) : loopF g b (d :: ds) Γ = bnd (g d) (fun _ => bnd b fun f => match f with
    | .nx => loopF g b ds
    | .ct => loopF g b ds
    | .bk => ret .nx
    | .rt r => ret (.rt r)) Γ := rfl
@[simp] theorem ofO_some (a : α) : ofO (some a) Γ = some (.ok a, Γ) := rfl
@[simp] theorem ofO_none : ofO (none : Option α) Γ = none := rfl
@[simp] theorem sIter_ap (c : M Rf) : sIter c Γ = bnd (cap c) (fun d => ofO (seqI d)) Γ := rfl
@[simp] theorem sRng_ap (f : List D → Option (List D)) (c : M (List D)) : sRng f c Γ = bnd c (fun ds => ofO (f ds)) Γ := rfl
@[simp] theorem ipD_ap (f : Int → Int → Int) (i : Nat) (c : M Rf) : ipD f i c Γ = match Γ[i]? with
  | some (.dat (.int a)) => bnd (opnd c) (fun r => match r with
    | .dat (.int b) => bnd (gSet i (.int (f a b))) fun _ => ret .nx
    | _ => fail) Γ
  | _ => none := rfl
@[simp] theorem liftX_dat (d : D) : liftX (some (.ok (.dat d))) Γ = some (.ok (.dat d), Γ) := rfl
@[simp] theorem liftX_own (d : D) : liftX (some (.ok (.own d))) Γ = some (.ok (.own d), Γ) := rfl
@[simp] theorem liftX_err (e : D) : liftX (some (.error e)) Γ = some (.error e, Γ) := rfl
@[simp] theorem sCallF_ap (φ : Fn) (c : M (List D)) : sCallF φ c Γ = bnd c (fun ds => liftX (φ ds)) Γ := rfl
@[simp] theorem argN_ap (n : Nat) (φ : Fn) (ds : List D) : argN n φ ds = if ds.length = n then φ ds else none := rfl
@[simp] theorem mCons_ap (a : M Rf) (cs : M (List D)) : mCons a cs Γ = bnd a (fun r => bnd cs fun ds => ret (r, ds)) Γ := rfl
@[simp] theorem sCallM_ap (φ : Fm) (a : M Rf) (cs : M (List D)) : sCallM φ a cs Γ = bnd (mCons a cs) (fun p => lendA φ p.1 p.2) Γ := rfl
@[simp] theorem argM_ap (n : Nat) (φ : Fm) (d : D) (ds : List D) : argM n φ d ds = if ds.length + 1 = n then φ d ds else none := rfl
@[simp] theorem sOne_ap (f : D → Option Rf) (a : M Rf) : sOne f a Γ = bnd (opnd a) (app1 f) Γ := rfl
@[simp] theorem app1_ap (f : D → Option Rf) (x : Rf) : app1 f x Γ = match rsv Γ x with
  | some d => lift (f d) Γ
  | none => none := rfl
@[simp] theorem sPutF_ap (c : Nat) (f : Str) (a b : M Rf) : sPutF c f a b Γ = bnd (cap b) (fun d => bnd a fun r => bnd (lendA (putM c f) r [d]) fun _ => ret .nx) Γ := rfl
@[simp] theorem sMut_ap (p : D → Bool) (φ : Fm) (a : M Rf) (cs : M (List D)) : sMut p φ a cs Γ = bnd a (fun r => bnd (ownB p r) fun _ => bnd cs fun ds => lendA φ r ds) Γ := rfl
@[simp] theorem ownB_slot (p : D → Bool) (i : Nat) : ownB p (.slot i) Γ = match Γ[i]? with
    | some (.own d) => if p d then some (.ok (), Γ) else none
    | _ => none := rfl
@[simp] theorem sPart_ap (c : M Rf) : sPart c Γ = bnd (opnd c) (fun r => match r with
  | .dat (.int i) => ret (some i)
  | _ => fail) Γ := rfl
def sliA (x : Rf) (l u : Option Int) : M Rf := fun Γ => match rsv Γ x with
  | some d => lift (sliF d l u) Γ
  | none => none
@[simp] theorem sliA_ap (x : Rf) (l u : Option Int) : sliA x l u Γ = match rsv Γ x with
  | some d => lift (sliF d l u) Γ
  | none => none := rfl
@[simp] theorem sSli_ap (a : M Rf) (lo hi : M (Option Int)) : sSli a lo hi Γ = bnd (opnd a) (fun x => bnd lo fun l => bnd hi fun u => sliA x l u) Γ := rfl
@[simp] theorem lcM_ap (g : D → M Unit) (ct : M Bool) (ce : M D) (vs : List Nat) (ds : List D) : lcM g ct ce vs ds Γ = match loopL g ct ce vs ds [] (wipeG Γ vs) with
  | some (.ok acc, Γ2) => some (.ok (.own (.lst acc)), unwipe Γ Γ2 vs)
  | _ => none := rfl
@[simp] theorem unwipe_nil (Γ2 : List Sl) : unwipe Γ Γ2 [] = Γ2 := rfl
@[simp] theorem unwipe_cons (Γ2 : List Sl) (v : Nat) (vs : List Nat) : unwipe Γ Γ2 (v :: vs) = (unwipe Γ Γ2 vs).set v (keepD Γ[v]?) := rfl
@[simp] theorem keepD_dat (d : D) : keepD (some (.dat d)) = .dat d := rfl
@[simp] theorem keepD_un : keepD (some .un) = .un := rfl
@[simp] theorem wipeG_nil : wipeG Γ [] = Γ := rfl
@[simp] theorem wipeG_cons (v : Nat) (vs : List Nat) : wipeG Γ (v :: vs) = (wipeG Γ vs).set v .un := rfl
@[simp] theorem isStr_str (x : Str) : isStr (.dat (.str x)) = true := rfl
@[simp] theorem sStr1_ap (f : D → D → Option Rf) (a b : M Rf) : sStr1 f a b Γ = bnd a (fun x => if isStr x then bnd (opnd b) fun y => app2 f x y else fail) Γ := rfl
@[simp] theorem sLc_ap (vs : List Nat) (ci : M (List D)) (g : D → M Unit) (ct : M Bool) (ce : M Rf) : sLc vs ci g ct ce Γ = bnd ci (lcM g ct (cap ce) vs) Γ := rfl
@[simp] theorem sRaise_ap (c : Nat) (fs : List Str) (cs : M (List D)) : sRaise c fs cs Γ = bnd cs (fun ds => match excF c fs ds with
  | some e => throw' e
  | none => fail) Γ := rfl
@[simp] theorem sMeth_ap (c : Nat) (m : Str) (φ : Fn) (a : M Rf) (cs : M (List D)) : sMeth c m φ a cs Γ = bnd (cap a) (fun d => bnd (insA c m d) fun _ => bnd cs fun ds => liftX (φ (d :: ds))) Γ := rfl
@[simp] theorem insA_ap (c : Nat) (m : Str) (d : D) : insA c m d Γ = if isInsB c m d then some (.ok (), Γ) else none := by unfold insA; split <;> rfl
@[simp] theorem sProp_ap (c : Nat) (φ : Fn) (a : M Rf) : sProp c φ a Γ = bnd (cap a) (fun d => bnd (insA c "" d) fun _ => okX (φ [d])) Γ := rfl
@[simp] theorem okX_dat (d : D) : okX (some (.ok (.dat d))) Γ = some (.ok (.dat d), Γ) := rfl
@[simp] theorem okX_own (d : D) : okX (some (.ok (.own d))) Γ = some (.ok (.own d), Γ) := rfl
@[simp] theorem sLenO_ap (c : Nat) (φ : Fn) (cs : M (List D)) : sLenO c φ cs Γ = bnd cs (fun ds => lift (lenOF c φ ds)) Γ := rfl
@[simp] theorem sEqO_ap (n : Bool) (c : Nat) (φ : Fn) (a b : M Rf) : sEqO n c φ a b Γ = bnd (cap a) (fun x => bnd (cap b) fun y => if eqAble c x y then boolA n (φ [x, y]) else fail) Γ := rfl
@[simp] theorem boolA_bl (n b : Bool) : boolA n (some (.ok (.dat (.bl b)))) Γ = some (.ok (.dat (.bl (if n then !b else b))), Γ) := rfl
@[simp] theorem sDic0_ap : sDic0 Γ = some (.ok (.own (.dic [] [])), Γ) := rfl
@[simp] theorem sTryK_ap (M0 : Mt) (i j : Nat) (b : M Fl) : sTryK M0 i j b Γ = match b Γ with
  | some (.error (.exc c fs vs), Γ') => match M0 c with
    | some true => if i < Γ'.length then some (.ok .nx, (Γ'.set j (.dat (.exc c fs vs))).set i .un) else none
    | some false => some (.error (.exc c fs vs), Γ')
    | none => none
  | r => r := rfl
theorem bnd_to {m : M α} {k : α → M β} {Γ' : List Sl} {a : α} (h : m Γ = some (.ok a, Γ')) : bnd m k Γ = k a Γ' := bnd_ok h
end
/-! ### the slots -/
@[simp] theorem kitB_NoneType_int : L2.kitB "NoneType" "int" = some false := by decide +kernel
@[simp] theorem kitB_NoneType_str : L2.kitB "NoneType" "str" = some false := by decide +kernel
@[simp] theorem kitB_NoneType_bool : L2.kitB "NoneType" "bool" = some false := by decide +kernel
@[simp] theorem kitB_NoneType_tuple : L2.kitB "NoneType" "tuple" = some false := by decide +kernel
@[simp] theorem kitB_NoneType_list : L2.kitB "NoneType" "list" = some false := by decide +kernel
@[simp] theorem kitB_NoneType_dict : L2.kitB "NoneType" "dict" = some false := by decide +kernel
@[simp] theorem kitB_bool_int : L2.kitB "bool" "int" = some true := by decide +kernel
@[simp] theorem kitB_bool_str : L2.kitB "bool" "str" = some false := by decide +kernel
@[simp] theorem kitB_bool_bool : L2.kitB "bool" "bool" = some true := by decide +kernel
@[simp] theorem kitB_bool_tuple : L2.kitB "bool" "tuple" = some false := by decide +kernel
@[simp] theorem kitB_bool_list : L2.kitB "bool" "list" = some false := by decide +kernel
@[simp] theorem kitB_bool_dict : L2.kitB "bool" "dict" = some false := by decide +kernel
@[simp] theorem kitB_int_int : L2.kitB "int" "int" = some true := by decide +kernel
@[simp] theorem kitB_int_str : L2.kitB "int" "str" = some false := by decide +kernel
@[simp] theorem kitB_int_bool : L2.kitB "int" "bool" = some false := by decide +kernel
@[simp] theorem kitB_int_tuple : L2.kitB "int" "tuple" = some false := by decide +kernel
@[simp] theorem kitB_int_list : L2.kitB "int" "list" = some false := by decide +kernel
@[simp] theorem kitB_int_dict : L2.kitB "int" "dict" = some false := by decide +kernel
@[simp] theorem kitB_str_int : L2.kitB "str" "int" = some false := by decide +kernel
@[simp] theorem kitB_str_str : L2.kitB "str" "str" = some true := by decide +kernel
@[simp] theorem kitB_str_bool : L2.kitB "str" "bool" = some false := by decide +kernel
@[simp] theorem kitB_str_tuple : L2.kitB "str" "tuple" = some false := by decide +kernel
@[simp] theorem kitB_str_list : L2.kitB "str" "list" = some false := by decide +kernel
@[simp] theorem kitB_str_dict : L2.kitB "str" "dict" = some false := by decide +kernel
@[simp] theorem kitB_list_int : L2.kitB "list" "int" = some false := by decide +kernel
@[simp] theorem kitB_list_str : L2.kitB "list" "str" = some false := by decide +kernel
@[simp] theorem kitB_list_bool : L2.kitB "list" "bool" = some false := by decide +kernel
@[simp] theorem kitB_list_tuple : L2.kitB "list" "tuple" = some false := by decide +kernel
@[simp] theorem kitB_list_list : L2.kitB "list" "list" = some true := by decide +kernel
@[simp] theorem kitB_list_dict : L2.kitB "list" "dict" = some false := by decide +kernel
@[simp] theorem kitB_tuple_int : L2.kitB "tuple" "int" = some false := by decide +kernel
@[simp] theorem kitB_tuple_str : L2.kitB "tuple" "str" = some false := by decide +kernel
@[simp] theorem kitB_tuple_bool : L2.kitB "tuple" "bool" = some false := by decide +kernel
@[simp] theorem kitB_tuple_tuple : L2.kitB "tuple" "tuple" = some true := by decide +kernel
@[simp] theorem kitB_tuple_list : L2.kitB "tuple" "list" = some false := by decide +kernel
@[simp] theorem kitB_tuple_dict : L2.kitB "tuple" "dict" = some false := by decide +kernel
@[simp] theorem kitB_dict_int : L2.kitB "dict" "int" = some false := by decide +kernel
@[simp] theorem kitB_dict_str : L2.kitB "dict" "str" = some false := by decide +kernel
@[simp] theorem kitB_dict_bool : L2.kitB "dict" "bool" = some false := by decide +kernel
@[simp] theorem kitB_dict_tuple : L2.kitB "dict" "tuple" = some false := by decide +kernel
@[simp] theorem kitB_dict_list : L2.kitB "dict" "list" = some false := by decide +kernel
@[simp] theorem kitB_dict_dict : L2.kitB "dict" "dict" = some true := by decide +kernel
@[simp] theorem answer_dat (d : D) (Γ : List Sl) : answer (.rt (.dat d)) Γ = some (.ok (.dat d)) := rfl
@[simp] theorem answer_own (d : D) (Γ : List Sl) : answer (.rt (.own d)) Γ = some (.ok (.own d)) := rfl
@[simp] theorem answer_nx (Γ : List Sl) : answer .nx Γ = some (.ok (.dat .non)) := rfl
@[simp] theorem answer_slot (i : Nat) (Γ : List Sl) : answer (.rt (.slot i)) Γ = match Γ[i]? with
    | some (.own d) => some (.ok (.own d))
    | some (.dat d) => some (.ok (.dat d))
    | _ => none := rfl
@[simp] theorem answerM_dat (d d1 : D) (Γ : List Sl) : answerM (.rt (.dat d)) Γ d1 = some (.ok (.dat d), d1) := rfl
@[simp] theorem answerM_own (d d1 : D) (Γ : List Sl) : answerM (.rt (.own d)) Γ d1 = some (.ok (.own d), d1) := rfl
@[simp] theorem answerM_nx (d1 : D) (Γ : List Sl) : answerM .nx Γ d1 = some (.ok (.dat .non), d1) := rfl
@[simp] theorem answerM_slot (i : Nat) (d1 : D) (Γ : List Sl) : answerM (.rt (.slot i)) Γ d1 = if i = 0 then none else match Γ[i]? with
    | some (.own d) => some (.ok (.own d), d1)
    | some (.dat d) => some (.ok (.dat d), d1)
    | _ => none := rfl
@[simp] theorem lent_cons (d : D) (Γ : List Sl) : lent (.own d :: Γ) = some d := rfl
theorem runDef_ap (n : Nat) (c : M Fl) (ds : List D) : runDef n c ds = match c (st0 n ds) with
  | none => none
  | some (.error e, _) => some (.error e)
  | some (.ok f, Γ) => answer f Γ := rfl
theorem runDefM_ap (n : Nat) (c : M Fl) (d0 : D) (ds : List D) : runDefM n c d0 ds = match c (.own d0 :: st0 (n - 1) ds) with
  | none => none
  | some (.error e, Γ) => (lent Γ).map fun d1 => (.error e, d1)
  | some (.ok f, Γ) => (lent Γ).bind fun d1 => answerM f Γ d1 := rfl
/-! ### the operations -/
@[simp] theorem addD_int (i j : Int) : addD (.int i) (.int j) = some (.dat (.int (i + j))) := rfl
@[simp] theorem addD_str (x y : Str) : addD (.str x) (.str y) = if x.length + y.length ≤ big then some (.dat (.str (x ++ y))) else none := rfl
@[simp] theorem addD_lst (x y : List D) : addD (.lst x) (.lst y) = if x.length + y.length ≤ big then some (.own (.lst (x ++ y))) else none := rfl
@[simp] theorem addD_tup (x y : List D) : addD (.tup x) (.tup y) = if x.length + y.length ≤ big then some (.dat (.tup (x ++ y))) else none := rfl
@[simp] theorem subD_int (i j : Int) : subD (.int i) (.int j) = some (.dat (.int (i - j))) := rfl
@[simp] theorem mulD_int (i j : Int) : mulD (.int i) (.int j) = if sm i || sm j then some (.dat (.int (i * j))) else none := rfl
@[simp] theorem modD_int (i j : Int) : modD (.int i) (.int j) = if 0 < j then some (.dat (.int (i % j))) else none := rfl
@[simp] theorem divD_int (i j : Int) : divD (.int i) (.int j) = if 0 < j ∧ j < 18446744073709551616 then some (.dat (.int (i / j))) else none := rfl
@[simp] theorem powD_int (i j : Int) : powD (.int i) (.int j) = if 0 ≤ j ∧ j ≤ 1000000 ∧ i.natAbs < 18446744073709551616 then some (.dat (.int (i ^ j.toNat))) else none := rfl
@[simp] theorem ltD_int (i j : Int) : ltD (.int i) (.int j) = some (.dat (.bl (decide (i < j)))) := rfl
@[simp] theorem leD_int (i j : Int) : leD (.int i) (.int j) = some (.dat (.bl (decide (i ≤ j)))) := rfl
@[simp] theorem gtD_int (i j : Int) : gtD (.int i) (.int j) = some (.dat (.bl (decide (j < i)))) := rfl
@[simp] theorem geD_int (i j : Int) : geD (.int i) (.int j) = some (.dat (.bl (decide (j ≤ i)))) := rfl
@[simp] theorem eqD_int (i j : Int) : eqD (.int i) (.int j) = some (.dat (.bl (decide (i = j)))) := rfl
@[simp] theorem neD_int (i j : Int) : neD (.int i) (.int j) = some (.dat (.bl (!decide (i = j)))) := rfl
@[simp] theorem lenF_lst (x : List D) : lenF [.lst x] = some (.dat (.int x.length)) := rfl
@[simp] theorem lenF_tup (x : List D) : lenF [.tup x] = some (.dat (.int x.length)) := rfl
@[simp] theorem lenF_str (x : Str) : lenF [.str x] = if x.length ≤ big then some (.dat (.int x.length)) else none := rfl
@[simp] theorem ixD_lst (x : List D) (i : Int) : ixD (.lst x) (.int i) = (L2.atI x i).map .dat := rfl
@[simp] theorem ixD_tup (x : List D) (i : Int) : ixD (.tup x) (.int i) = (L2.atI x i).map .dat := rfl
@[simp] theorem isN_non : isN (.dat .non) = true := rfl
@[simp] theorem listF_lst (x : List D) : listF [.lst x] = some (.own (.lst x)) := rfl
@[simp] theorem listF_tup (x : List D) : listF [.tup x] = some (.own (.lst x)) := rfl
@[simp] theorem tupleF_lst (x : List D) : tupleF [.lst x] = some (.dat (.tup x)) := rfl
@[simp] theorem tupleF_tup (x : List D) : tupleF [.tup x] = some (.dat (.tup x)) := rfl
@[simp] theorem seqI_lst (x : List D) : seqI (.lst x) = some x := rfl
@[simp] theorem seqI_tup (x : List D) : seqI (.tup x) = some x := rfl
@[simp] theorem minF_int (i j : Int) : minF [.int i, .int j] = some (.dat (.int (if j < i then j else i))) := rfl
@[simp] theorem maxF_int (i j : Int) : maxF [.int i, .int j] = some (.dat (.int (if j > i then j else i))) := rfl
@[simp] theorem isLst_lst (x : List D) : isLst (.lst x) = true := rfl
@[simp] theorem appendM_lst (xs : List D) (d : D) : appendM (.lst xs) [d] = if xs.length < big then some (.ok (.dat .non), .lst (xs ++ [d])) else none := rfl
theorem mkTup_ok {ds : List D} (h : ds.length ≤ 1000) : mkTup ds = some (.dat (.tup ds)) := if_pos (Nat.le_trans h (by decide))
theorem mkLst_ok {ds : List D} (h : ds.length ≤ 1000) : mkLst ds = some (.own (.lst ds)) := if_pos (Nat.le_trans h (by decide))
@[simp] theorem mkTup_0 : mkTup [] = some (.dat (.tup [])) := rfl
@[simp] theorem mkLst_0 : mkLst [] = some (.own (.lst [])) := rfl
/-! ### places -/
theorem ixN_nat (n k : Nat) : L2.ixN n (k : Int) = if k < n then some k else none := by
  unfold L2.ixN
  rw [if_pos (Int.natCast_nonneg k)]
  by_cases h : k < n
  · rw [if_pos h, if_pos (by omega)]; simp
  · rw [if_neg h, if_neg (by omega)]
@[simp] theorem ixN_0 (n : Nat) : L2.ixN n 0 = if 0 < n then some 0 else none := ixN_nat n 0
@[simp] theorem ixN_1 (n : Nat) : L2.ixN n 1 = if 1 < n then some 1 else none := ixN_nat n 1
@[simp] theorem ixN_2 (n : Nat) : L2.ixN n 2 = if 2 < n then some 2 else none := ixN_nat n 2
@[simp] theorem ixN_3 (n : Nat) : L2.ixN n 3 = if 3 < n then some 3 else none := ixN_nat n 3
@[simp] theorem ixN_4 (n : Nat) : L2.ixN n 4 = if 4 < n then some 4 else none := ixN_nat n 4
@[simp] theorem ixN_5 (n : Nat) : L2.ixN n 5 = if 5 < n then some 5 else none := ixN_nat n 5
@[simp] theorem ixN_6 (n : Nat) : L2.ixN n 6 = if 6 < n then some 6 else none := ixN_nat n 6
@[simp] theorem ixN_7 (n : Nat) : L2.ixN n 7 = if 7 < n then some 7 else none := ixN_nat n 7
@[simp] theorem ixN_8 (n : Nat) : L2.ixN n 8 = if 8 < n then some 8 else none := ixN_nat n 8
@[simp] theorem ixN_9 (n : Nat) : L2.ixN n 9 = if 9 < n then some 9 else none := ixN_nat n 9
@[simp] theorem ixN_10 (n : Nat) : L2.ixN n 10 = if 10 < n then some 10 else none := ixN_nat n 10
@[simp] theorem ixN_11 (n : Nat) : L2.ixN n 11 = if 11 < n then some 11 else none := ixN_nat n 11
theorem atI_nat {α : Type} (xs : List α) (k : Nat) : L2.atI xs (k : Int) = xs[k]? := by
  unfold L2.atI
  rw [ixN_nat]
  by_cases h : k < xs.length
  · rw [if_pos h]; rfl
  · rw [if_neg h, List.getElem?_eq_none (Nat.le_of_not_lt h)]; rfl
@[simp] theorem atI_0 {α : Type} (xs : List α) : L2.atI xs 0 = xs[0]? := atI_nat xs 0
@[simp] theorem atI_1 {α : Type} (xs : List α) : L2.atI xs 1 = xs[1]? := atI_nat xs 1
@[simp] theorem atI_2 {α : Type} (xs : List α) : L2.atI xs 2 = xs[2]? := atI_nat xs 2
@[simp] theorem atI_3 {α : Type} (xs : List α) : L2.atI xs 3 = xs[3]? := atI_nat xs 3
@[simp] theorem atI_4 {α : Type} (xs : List α) : L2.atI xs 4 = xs[4]? := atI_nat xs 4
@[simp] theorem atI_5 {α : Type} (xs : List α) : L2.atI xs 5 = xs[5]? := atI_nat xs 5
@[simp] theorem atI_6 {α : Type} (xs : List α) : L2.atI xs 6 = xs[6]? := atI_nat xs 6
@[simp] theorem atI_7 {α : Type} (xs : List α) : L2.atI xs 7 = xs[7]? := atI_nat xs 7
@[simp] theorem atI_8 {α : Type} (xs : List α) : L2.atI xs 8 = xs[8]? := atI_nat xs 8
@[simp] theorem atI_9 {α : Type} (xs : List α) : L2.atI xs 9 = xs[9]? := atI_nat xs 9
@[simp] theorem atI_10 {α : Type} (xs : List α) : L2.atI xs 10 = xs[10]? := atI_nat xs 10
@[simp] theorem atI_11 {α : Type} (xs : List α) : L2.atI xs 11 = xs[11]? := atI_nat xs 11
theorem atI_int {α : Type} (xs : List α) {i : Int} (h : 0 ≤ i) : L2.atI xs i = xs[i.toNat]? := by
  obtain ⟨k, rfl⟩ := Int.eq_ofNat_of_zero_le h
  exact atI_nat xs k
theorem atI_last {α : Type} (xs : List α) (x : α) : L2.atI (xs ++ [x]) (-1) = some x := by
  unfold L2.atI L2.ixN
  rw [if_neg (by omega), if_pos (by rw [List.length_append, List.length_singleton]; omega)]
  have e : (-1 + (((xs ++ [x]).length : Nat) : Int)).toNat = xs.length := by rw [List.length_append, List.length_singleton]; omega
  show (some _).bind _ = _
  rw [e]
  show (xs ++ [x])[xs.length]? = some x
  simp
@[simp] theorem setM_lst (xs : List D) (i : Int) (y : D) : setM (.lst xs) [.int i, y] = match L2.ixN xs.length i with
    | some k => some (.ok (.dat .non), .lst (xs.set k y))
    | none => none := rfl
@[simp] theorem big_is : big = 16777216 := rfl
end DL

/-! EV2: repr of plain data, sorted of letters, loops. -/
namespace DL
open PySem L2 PyProof.Rows PySem.W
/-! ### the length of a repr -/
mutual
def wt : D → Nat
  | .str x => 10 * x.length + 2
  | .int _ => 1921
  | .lst xs => wtL xs + 2
  | .tup xs => wtL xs + 3
  | _ => 5
def wtL : List D → Nat
  | [] => 0
  | x :: xs => wt x + 2 + wtL xs
end
mutual
def fine : D → Bool
  | .non => true
  | .bl _ => true
  | .int i => decide (i.natAbs.log2 < 1920)
  | .str x => x.cps.toList.all fun c => decide (c < 4294967296)
  | .lst xs => fineL xs
  | .tup xs => fineL xs
  | _ => false
def fineL : List D → Bool
  | [] => true
  | x :: xs => fine x && fineL xs
end
theorem len_textFrom : ∀ (ts : List Str) (k : Nat) (acc : Str), (textFrom k acc ts).length ≤ acc.length + (ts.map fun t => t.length + 2).sum
  | [], k, acc => by show acc.length ≤ _; simp
  | t :: r, k, acc => by
    have ih := len_textFrom r (k + 1) (acc ++ (if k > 0 then ", " else "" : String) ++ t)
    have e : (acc ++ (if k > 0 then ", " else "" : String) ++ t).length = acc.length + (if k > 0 then 2 else 0) + t.length := by
      rw [strLen_append, strLen_append]
      split <;> rfl
    have e2 : (textFrom k acc (t :: r)) = textFrom (k + 1) (acc ++ (if k > 0 then ", " else "" : String) ++ t) r := rfl
    rw [e2]
    have e3 : (if k > 0 then 2 else 0) ≤ 2 := by split <;> omega
    rw [e] at ih
    simp only [List.map_cons, List.sum_cons]
    omega
theorem len_listText (ts : List Str) : (listText ts).length ≤ (ts.map fun t => t.length + 2).sum + 2 := by
  have h := len_textFrom ts 0 "["
  unfold listText
  rw [strLen_append]
  have e1 : ("[" : Str).length = 1 := rfl
  have e2 : (("]" : String) : Str).length = 1 := rfl
  rw [e1] at h
  show _ + (("]" : String) : Str).length ≤ _
  rw [e2]
  omega
theorem piled_sum : ∀ ts : List Str, piled ts = (ts.map fun t => t.length + 2).sum
  | [] => rfl
  | t :: r => by rw [piled_cons, piled_sum r, List.map_cons, List.sum_cons]
theorem len_tupleText (ts : List Str) : (tupleText ts).length ≤ (ts.map fun t => t.length + 2).sum + 3 := by
  unfold tupleText
  rw [strLen_append, strLen_append]
  have e1 : ("(" : Str).length = 1 := rfl
  rw [e1]
  have e3 : ((if ts.length == 1 then ",)" else ")" : String) : Str).length ≤ 2 := by split <;> decide
  by_cases h : ts = []
  · subst h
    have : (Str.join ", " ([] : List Str)).length = 0 := rfl
    rw [this]
    omega
  · have := join_length_add ts h
    rw [piled_sum] at this
    omega
mutual
theorem shown_wt : ∀ d : D, fine d = true → (py d).shown.length ≤ wt d ∧ (py d).showable = true
  | .non, _ => ⟨by decide, rfl⟩
  | .bl b, _ => ⟨by cases b <;> decide, rfl⟩
  | .int i, h => by
    have h' : i.natAbs.log2 < 1920 := of_decide_eq_true h
    exact ⟨int_text_len_1921 h', by simpa [PyData.showable, py] using h'⟩
  | .str x, h => by
    have h' : ∀ c ∈ x.cps.toList, c < 16 ^ 8 := fun c hc => by
      have := List.all_eq_true.mp h c hc
      simpa using this
    exact ⟨StrLaws.reprText_len x h', rfl⟩
  | .lst xs, h => by
    obtain ⟨h1, h2⟩ := shownAll_wt xs h
    refine ⟨Nat.le_trans (len_listText _) ?_, ?_⟩
    · show (List.map _ (PyData.shownAll (pyAll xs))).sum + 2 ≤ wtL xs + 2
      omega
    · show PyData.showableAll (pyAll xs) = true
      exact h2
  | .tup xs, h => by
    obtain ⟨h1, h2⟩ := shownAll_wt xs h
    refine ⟨Nat.le_trans (len_tupleText _) ?_, ?_⟩
    · show (List.map _ (PyData.shownAll (pyAll xs))).sum + 3 ≤ wtL xs + 3
      omega
    · show PyData.showableAll (pyAll xs) = true
      exact h2
  | .ty n, h => by cases h
  | .cls n, h => by cases h
  | .dic _ _, h => by cases h
  | .ins _ _ _, h => by cases h
  | .exc _ _ _, h => by cases h
theorem shownAll_wt : ∀ xs : List D, fineL xs = true → ((PyData.shownAll (pyAll xs)).map fun t => t.length + 2).sum ≤ wtL xs ∧ PyData.showableAll (pyAll xs) = true
  | [], _ => ⟨Nat.le_refl _, rfl⟩
  | x :: xs, h => by
    obtain ⟨h1, h2⟩ := Bool.and_eq_true_iff.mp (show (fine x && fineL xs) = true from h)
    obtain ⟨a1, a2⟩ := shown_wt x h1
    obtain ⟨b1, b2⟩ := shownAll_wt xs h2
    constructor
    · show (List.map _ ((py x).shown :: PyData.shownAll (pyAll xs))).sum ≤ wt x + 2 + wtL xs
      rw [List.map_cons, List.sum_cons]
      omega
    · show ((py x).showable && PyData.showableAll (pyAll xs)) = true
      rw [a2, b2]; rfl
end
theorem reprF_ok {d : D} (h1 : okD 60 d = true) (h2 : fine d = true) (h3 : wt d ≤ 16777216) : reprF [d] = some (.dat (.str (py d).shown)) := by
  obtain ⟨a, b⟩ := shown_wt d h2
  show (if _ then _ else _) = _
  rw [if_pos]
  rw [h1, b, decide_eq_true (Nat.le_trans a h3)]
  rfl
/-- a text of one sign -/
def L1 (c : Nat) : D := .str ⟨#[c]⟩
theorem le_L1 (a b : Nat) : dataLe false py (L1 a) (L1 b) = decide (a ≤ b) := by
  show (!(decide ([b] < [a]) || (!decide ([a] < [b]) && false))) = decide (a ≤ b)
  by_cases h : b < a
  · rw [decide_eq_true (show [b] < [a] from List.Lex.rel h), decide_eq_false (show ¬ a ≤ b by omega)]
    rfl
  · have h' : ¬ [b] < [a] := fun z => by
      cases z with
      | rel z => exact h z
      | cons z => cases z
    rw [decide_eq_false h', decide_eq_true (show a ≤ b by omega)]
    simp
/-! ### sorted letters -/
theorem sort_L1 (cs : List Nat) : sortD (cs.map L1) = (cs.mergeSort fun a b => decide (a ≤ b)).map L1 := by
  unfold sortD
  exact (List.map_mergeSort fun a _ b _ => (le_L1 a b).symm).symm
theorem sorts_L1 (cs : List Nat) : sortsB (cs.map L1) = true := by
  unfold sortsB
  simp only [Bool.and_eq_true, Bool.or_eq_true, List.all_eq_true, List.mem_map, forall_exists_index, and_imp, forall_apply_eq_imp_iff₂]
  refine ⟨⟨fun a _ => rfl, fun a _ b _ => rfl⟩, .inr fun a _ => rfl⟩
theorem sorted_L1 (cs : List Nat) : sortedF [.lst (cs.map L1)] = some (.own (.lst ((cs.mergeSort fun a b => decide (a ≤ b)).map L1))) := by
  show (if _ then _ else _) = _
  rw [if_pos (sorts_L1 cs), sort_L1]
theorem ms_asc {cs : List Nat} (h : cs.Nodup) : (cs.mergeSort fun a b => decide (a ≤ b)).Pairwise (· < ·) := by
  have hp := List.mergeSort_perm cs fun a b => decide (a ≤ b)
  have h1 := List.pairwise_mergeSort (le := fun a b : Nat => decide (a ≤ b)) (fun a b c h1 h2 => by simp only [decide_eq_true_eq] at *; omega) (fun a b => by simp only [Bool.or_eq_true, decide_eq_true_eq]; omega) cs
  have h2 : (cs.mergeSort fun a b => decide (a ≤ b)).Nodup := hp.symm.nodup h
  exact (h1.and h2).imp fun {a b} z => by
    have := of_decide_eq_true z.1
    have := z.2
    omega
/-! ### while -/
theorem sWhile_stop {c : M Bool} {b : M Fl} {Γ Γ' : List Sl} (h : c Γ = some (.ok false, Γ')) : sWhile c b Γ = some (.ok .nx, Γ') := sWhile_eq (n := 1) (by
  show bnd c _ Γ = _
  rw [bnd_ok h]; rfl)
theorem all_ok {n : Nat} {ds : List D} (h : ∀ d ∈ ds, okD n d = true) : ds.all (okD n) = true := List.all_eq_true.mpr h
theorem neD_nil {xs : List D} (h : ∀ d ∈ xs, okD 59 d = true) : neD (.lst xs) (.lst []) = some (.dat (.bl (!xs.isEmpty))) := by
  show (if (xs.all (okD 59) && true) = true then some (Rf.dat (.bl (!eqL (eqF 59) xs []))) else none) = _
  rw [all_ok h]
  cases xs <;> rfl
theorem eqD_nil {xs : List D} (h : ∀ d ∈ xs, okD 59 d = true) : eqD (.lst xs) (.lst []) = some (.dat (.bl xs.isEmpty)) := by
  show (if (xs.all (okD 59) && true) = true then some (Rf.dat (.bl (eqL (eqF 59) xs []))) else none) = _
  rw [all_ok h]
  cases xs <;> rfl
theorem popAt_ok {xs : List D} {i : Int} (h0 : 0 ≤ i) (h1 : i < xs.length) (h2 : xs.length ≤ 1000000) : ∃ d, xs[i.toNat]? = some d ∧ popAtM (.lst xs) [.int i] = some (.ok (.dat d), .lst (xs.eraseIdx i.toNat)) := by
  have hk : i.toNat < xs.length := by omega
  refine ⟨xs[i.toNat], List.getElem?_eq_getElem hk, ?_⟩
  have hs : seqIndex? i xs.length = some i.toNat := by
    unfold seqIndex?
    simp only [if_neg (show ¬ i < 0 by omega)]
    rw [if_pos]
    simp only [Bool.and_eq_true, decide_eq_true_eq]
    exact ⟨h0, h1⟩
  have hsm : sm62 i = true := by
    show (decide _ && decide _) = true
    rw [decide_eq_true (by omega), decide_eq_true (by omega)]; rfl
  show (if sm62 i then _ else _) = _
  rw [if_pos hsm, hs]
  simp only [List.getElem?_eq_getElem hk]
/-! ### cuts -/
theorem sIx_to {n d : Nat} {v : Int} (h : 0 ≤ v) : HT.sIx n d (some v) = min v.toNat n := by
  show (if v < 0 then _ else _) = _
  rw [if_neg (by omega)]
theorem cut_to (xs : List D) {v : Int} (h : 0 ≤ v) : cutD xs none (some v) = xs.take v.toNat := by
  unfold cutD
  rw [sIx_to h, HT.sIx_none, List.drop_zero, Nat.sub_zero, ← List.take_eq_take_min]
theorem cut_from (xs : List D) {v : Int} (h : 0 ≤ v) : cutD xs (some v) none = xs.drop v.toNat := by
  unfold cutD
  rw [sIx_to h, HT.sIx_none]
  by_cases g : v.toNat ≤ xs.length
  · rw [Nat.min_eq_left g, List.take_of_length_le (by rw [List.length_drop]; omega)]
  · rw [Nat.min_eq_right (by omega), Nat.sub_self, List.take_zero, List.drop_eq_nil_of_le (by omega)]
theorem cut_mid (xs : List D) {u v : Int} (h : 0 ≤ u) (g : 0 ≤ v) : cutD xs (some u) (some v) = (xs.take v.toNat).drop u.toNat := by
  unfold cutD
  rw [sIx_to h, sIx_to g]
  by_cases g : u.toNat ≤ xs.length
  · rw [Nat.min_eq_left g, List.drop_take]
    by_cases g2 : v.toNat ≤ xs.length
    · rw [Nat.min_eq_left g2]
    · rw [Nat.min_eq_right (by omega)]
      rw [List.take_of_length_le (by rw [List.length_drop]; omega), List.take_of_length_le (by rw [List.length_drop]; omega)]
  · rw [show min u.toNat xs.length = xs.length by omega, List.drop_eq_nil_of_le (Nat.le_refl _), List.drop_eq_nil_of_le (by rw [List.length_take]; omega), List.take_nil]
theorem cut_last (xs : List D) (x : D) : cutD (xs ++ [x]) none (some (-1)) = xs := by
  unfold cutD
  have e : HT.sIx (xs ++ [x]).length (xs ++ [x]).length (some (-1)) = xs.length := by
    show (if (-1 : Int) < 0 then ((-1 : Int) + (((xs ++ [x]).length : Nat) : Int)).toNat else min (-1 : Int).toNat (xs ++ [x]).length) = xs.length
    rw [if_pos (by decide), List.length_append, List.length_singleton]
    omega
  rw [e, HT.sIx_none, List.drop_zero, Nat.sub_zero]
  simp
@[simp] theorem sliF_lst (xs : List D) (lo hi : Option Int) : sliF (.lst xs) lo hi = some (.own (.lst (cutD xs lo hi))) := rfl
@[simp] theorem sliF_tup (xs : List D) (lo hi : Option Int) : sliF (.tup xs) lo hi = some (.dat (.tup (cutD xs lo hi))) := rfl
/-- a permutation of images -/
theorem perm_map {α : Type} {f : α → D} {g : D → α} (hg : ∀ a, g (f a) = a) {as : List α} {out : List D} (h : (as.map f).Perm out) : ∃ bs, out = bs.map f ∧ as.Perm bs := by
  refine ⟨out.map g, ?_, ?_⟩
  · rw [List.map_map]
    have : ∀ d ∈ out, (f ∘ g) d = d := fun d hd => by
      obtain ⟨a, _, rfl⟩ := List.mem_map.mp (h.mem_iff.mpr hd)
      show f (g (f a)) = f a
      rw [hg]
    have e : out.map (f ∘ g) = out.map id := List.map_congr_left fun d hd => this d hd
    rw [e, List.map_id]
  · have := h.map g
    rw [List.map_map] at this
    have e : as.map (g ∘ f) = as := by
      conv => rhs; rw [← List.map_id as]
      exact List.map_congr_left fun a _ => hg a
    rw [e] at this
    exact this
def unL1 : D → Nat
  | .str x => x.cps.toList.headD 0
  | _ => 0
theorem unL1_L1 (c : Nat) : unL1 (L1 c) = c := rfl
theorem okD_L1 {n : Nat} (c : Nat) : okD n (L1 c) = true := by cases n <;> rfl
theorem mulD_r {i j : Int} (h1 : -1000000000 ≤ j) (h2 : j ≤ 1000000000) : mulD (.int i) (.int j) = some (.dat (.int (i * j))) := by
  have : (sm i || sm j) = true := by
    rw [show sm j = true from by
      show (decide _ && decide _) = true
      rw [decide_eq_true (by omega), decide_eq_true (by omega)]; rfl, Bool.or_true]
  show (if _ then _ else _) = _
  rw [if_pos this]
theorem mulD_l {i j : Int} (h1 : -1000000000 ≤ i) (h2 : i ≤ 1000000000) : mulD (.int i) (.int j) = some (.dat (.int (i * j))) := by
  have : (sm i || sm j) = true := by
    rw [show sm i = true from by
      show (decide _ && decide _) = true
      rw [decide_eq_true (by omega), decide_eq_true (by omega)]; rfl, Bool.true_or]
  show (if _ then _ else _) = _
  rw [if_pos this]
theorem divD_ok {i j : Int} (h1 : 0 < j) (h2 : j ≤ 1000000000) : divD (.int i) (.int j) = some (.dat (.int (i / j))) := by
  show (if _ then _ else _) = _
  rw [if_pos ⟨h1, by omega⟩]
/-! ### comprehensions that change nothing -/
theorem loopL_fm {g : D → M Unit} {ct : M Bool} {ce : M D} {vs : List Nat} {Γ0 : List Sl} {p : D → Bool} {f : D → D} : ∀ (ds acc : List D), (∀ d ∈ ds, ∃ Γa Γb, g d Γ0 = some (.ok (), Γa) ∧ ct Γa = some (.ok (p d), Γb) ∧ (p d = false → wipeG Γb vs = Γ0) ∧ (p d = true → ∃ Γc, ce Γb = some (.ok (f d), Γc) ∧ wipeG Γc vs = Γ0)) → acc.length + ds.length ≤ 16777216 →
    loopL g ct ce vs ds acc Γ0 = some (.ok (acc ++ (ds.filter p).map f), Γ0)
  | [], acc, h, hl => by simp [loopL]
  | d :: ds, acc, h, hl => by
    obtain ⟨Γa, Γb, h1, h2, h3, h4⟩ := h d (by simp)
    simp only [List.length_cons] at hl
    cases hp : p d with
    | false =>
      have ih := loopL_fm ds acc (fun e he => h e (by simp [he])) (by omega)
      rw [List.filter_cons_of_neg (by simp [hp]), ← ih]
      rw [hp] at h2
      simp only [loopL, h1, h2, h3 hp]
    | true =>
      obtain ⟨Γc, h5, h6⟩ := h4 hp
      have ih := loopL_fm ds (acc ++ [f d]) (fun e he => h e (by simp [he])) (by rw [List.length_append, List.length_singleton]; omega)
      have e : acc ++ (f d :: (ds.filter p).map f) = acc ++ [f d] ++ (ds.filter p).map f := by simp
      rw [List.filter_cons_of_pos hp, List.map_cons, e, ← ih]
      rw [hp] at h2
      simp only [loopL, h1, h2, h5, h6]
      rw [if_pos (by show acc.length < 16777216; omega)]
theorem loopL_map {g : D → M Unit} {ce : M D} {vs : List Nat} {Γ0 : List Sl} {f : D → D} (ds : List D) (h : ∀ d ∈ ds, ∃ Γa Γc, g d Γ0 = some (.ok (), Γa) ∧ ce Γa = some (.ok (f d), Γc) ∧ wipeG Γc vs = Γ0) (hl : ds.length ≤ 16777216) :
    loopL g (ret true) ce vs ds [] Γ0 = some (.ok (ds.map f), Γ0) := by
  have key := loopL_fm (ct := ret true) (p := fun _ => true) (f := f) ds [] (fun d hd => by
    obtain ⟨Γa, Γc, h1, h2, h3⟩ := h d hd
    exact ⟨Γa, Γa, h1, rfl, fun z => by simp at z, fun _ => ⟨Γc, h2, h3⟩⟩) (by simpa using hl)
  rw [List.filter_eq_self.mpr (fun _ _ => rfl)] at key
  simpa using key
/-! ### letters glued -/
theorem join_L1 (cs : List Nat) : Txt.join "" (cs.map fun c => (⟨#[c]⟩ : Str)) = ⟨cs.toArray⟩ := by
  show Builtin.Str.glued (PySem.Str.ofString "") _ = _
  rw [StrLaws.glued_eq_join]
  have z : (PySem.Str.ofString "") = (⟨#[]⟩ : Str) := by decide +kernel
  rw [z]
  induction cs with
  | nil => decide +kernel
  | cons c r ih =>
    cases r with
    | nil => rfl
    | cons c' r' =>
      have e : Str.join (⟨#[]⟩ : Str) ((c :: c' :: r').map fun c => (⟨#[c]⟩ : Str)) = (⟨#[c]⟩ : Str) ++ (⟨#[]⟩ : Str) ++ Str.join (⟨#[]⟩ : Str) ((c' :: r').map fun c => (⟨#[c]⟩ : Str)) := rfl
      rw [e, ih]
      show (⟨(#[c] ++ #[]) ++ (c' :: r').toArray⟩ : Str) = ⟨(c :: c' :: r').toArray⟩
      congr 1
      simp
theorem sum_ones : ∀ cs : List Nat, ((cs.map fun c => (⟨#[c]⟩ : Str)).map (·.length)).sum = cs.length
  | [] => rfl
  | c :: r => by
    rw [List.map_cons, List.map_cons, List.sum_cons, sum_ones r]
    show 1 + r.length = _
    rw [List.length_cons]; omega
theorem joinF_L1 (cs : List Nat) (h : cs.length ≤ 1000) : joinF (.str "") (.lst (cs.map L1)) = some (.dat (.str ⟨cs.toArray⟩)) := by
  show (strsD (cs.map L1)).bind _ = _
  have e : cs.map L1 = (cs.map fun c => (⟨#[c]⟩ : Str)).map .str := by rw [List.map_map]; rfl
  rw [e, strsD_map]
  show (if _ then _ else _) = _
  have z : ("" : Str).length = 0 := by decide
  rw [sum_ones, z, if_pos (by omega), join_L1]
/-! ### == of plain data -/
mutual
theorem eqF_refl : ∀ (d : D) (n : Nat), okD n d = true → eqF n d d = true
  | .non, n, _ => by cases n <;> rfl
  | .bl b, n, _ => by cases n <;> simp [eqF]
  | .int i, n, _ => by cases n <;> simp [eqF]
  | .str x, n, _ => by cases n <;> simp [eqF]
  | .lst xs, 0, h => by cases h
  | .lst xs, n + 1, h => eqL_refl xs n (List.all_eq_true.mp h)
  | .tup xs, 0, h => by cases h
  | .tup xs, n + 1, h => eqL_refl xs n (List.all_eq_true.mp h)
  | .ty t, n, h => by cases n <;> cases h
  | .cls t, n, h => by cases n <;> cases h
  | .dic _ _, n, h => by cases n <;> cases h
  | .ins _ _ _, n, h => by cases n <;> cases h
  | .exc _ _ _, n, h => by cases n <;> cases h
theorem eqL_refl : ∀ (xs : List D) (n : Nat), (∀ d ∈ xs, okD n d = true) → eqL (eqF n) xs xs = true
  | [], n, _ => rfl
  | x :: xs, n, h => by
    show (eqF n x x && eqL (eqF n) xs xs) = true
    rw [eqF_refl x n (h x (by simp)), eqL_refl xs n fun d hd => h d (by simp [hd])]; rfl
end
theorem eqD_refl {d : D} (h : okD 60 d = true) : eqD d d = some (.dat (.bl true)) := by
  show (if (okD 60 d && okD 60 d) = true then some (Rf.dat (.bl (eqF 60 d d))) else none) = _
  rw [h, eqF_refl d 60 h]; rfl
theorem neD_refl {d : D} (h : okD 60 d = true) : neD d d = some (.dat (.bl false)) := by
  show (if (okD 60 d && okD 60 d) = true then some (Rf.dat (.bl (!eqF 60 d d))) else none) = _
  rw [h, eqF_refl d 60 h]; rfl
/-! ### names of fields -/
theorem toNat_inj {a b : Char} (h : a.toNat = b.toNat) : a = b := Char.ext (UInt32.toNat_inj.mp h)
theorem map_toNat_inj : ∀ {as bs : List Char}, as.map Char.toNat = bs.map Char.toNat → as = bs
  | [], [], _ => rfl
  | [], _ :: _, h => by cases h
  | _ :: _, [], h => by cases h
  | a :: as, b :: bs, h => by
    simp only [List.map_cons, List.cons.injEq] at h
    rw [toNat_inj h.1, map_toNat_inj h.2]
@[simp] theorem ofString_inj (s t : String) : (PySem.Str.ofString s = PySem.Str.ofString t) = (s = t) := by
  refine propext ⟨fun h => ?_, fun h => by rw [h]⟩
  rw [PySem.Str.ofString_eq_toList, PySem.Str.ofString_eq_toList] at h
  injection h with h
  have h2 := congrArg Array.toList h
  simp only [List.toList_toArray] at h2
  exact String.toList_inj.mp (map_toNat_inj h2)
@[simp] theorem putM_ins (c : Nat) (f : Str) (c' : Nat) (fs : List Str) (vs : List D) (y : D) : putM c f (.ins c' fs vs) [y] = if c' = c ∧ fs.length < 1000 then some (.ok (.dat .non), .ins c (putN f fs) (putV f y fs vs)) else none := rfl
@[simp] theorem putN_nil (f : Str) : putN f [] = [f] := rfl
@[simp] theorem putN_cons (f k : Str) (r : List Str) : putN f (k :: r) = if k = f then k :: r else k :: putN f r := rfl
@[simp] theorem putV_nil (f : Str) (d : D) (vs : List D) : putV f d [] vs = [d] := rfl
@[simp] theorem putV_cons (f k : Str) (d : D) (r : List Str) (v : D) (vs : List D) : putV f d (k :: r) (v :: vs) = if k = f then d :: vs else v :: putV f d r vs := rfl
@[simp] theorem fldF_ins (c : Nat) (f : Str) (c' : Nat) (fs : List Str) (vs : List D) : fldF c f (.ins c' fs vs) = if c' = c then (lookD fs vs f).map .dat else none := rfl
@[simp] theorem excFld_exc (c : Nat) (f : Str) (c' : Nat) (fs : List Str) (vs : List D) : excFld c f (.exc c' fs vs) = if c' = c then (lookD fs vs f).map .dat else none := rfl
@[simp] theorem lookD_cons (f : Str) (fs : List Str) (v : D) (vs : List D) (g : Str) : lookD (f :: fs) (v :: vs) g = if g = f then some v else lookD fs vs g := rfl
@[simp] theorem isInsB_ins (c : Nat) (m : Str) (c' : Nat) (fs : List Str) (vs : List D) : isInsB c m (.ins c' fs vs) = (decide (c' = c) && !fs.contains m) := rfl
@[simp] theorem makeF_ap (c n : Nat) (φ : Fm) (ds : List D) : makeF c n φ ds = if ds.length + 1 = n then match φ (.ins c [] []) ds with
    | some (.ok (.dat .non), d1) => some (.ok (.own d1))
    | some (.error e, _) => some (.error e)
    | _ => none
  else none := rfl
@[simp] theorem excF_1 (c : Nat) (f : Str) (d : D) : excF c [f] [d] = some (.exc c [f] [d]) := rfl
@[simp] theorem lenOF_ap (c : Nat) (φ : Fn) (d : D) : lenOF c φ [d] = if isInsB c "" d then match φ [d] with
      | some (.ok (.dat (.int n))) => if 0 ≤ n ∧ n < 9223372036854775808 then some (.dat (.int n)) else none
      | _ => none
    else none := rfl
/-! ### statement by statement -/
theorem sSeq_to {a b : M Fl} {Γ Γ' : List Sl} {R : RR Fl} (h : a Γ = some (.ok .nx, Γ')) (g : b Γ' = R) : sSeq a b Γ = R := by
  rw [sSeq_ap, bnd_ok h]; exact g
theorem sSeq_rt {a b : M Fl} {Γ Γ' : List Sl} {r : Rf} (h : a Γ = some (.ok (.rt r), Γ')) : sSeq a b Γ = some (.ok (.rt r), Γ') := by
  rw [sSeq_ap, bnd_ok h]; rfl
theorem sSeq_err {a b : M Fl} {Γ Γ' : List Sl} {e : D} (h : a Γ = some (.error e, Γ')) : sSeq a b Γ = some (.error e, Γ') := by
  rw [sSeq_ap, bnd_err h]
theorem runDef_to {n : Nat} {c : M Fl} {ds : List D} {f : Fl} {Γ Γ' : List Sl} {R : Option Ans} (h0 : st0 n ds = Γ) (h : c Γ = some (.ok f, Γ')) (g : answer f Γ' = R) : runDef n c ds = R := by
  rw [runDef_ap, h0, h]; exact g
theorem runDef_err {n : Nat} {c : M Fl} {ds : List D} {e : D} {Γ Γ' : List Sl} (h0 : st0 n ds = Γ) (h : c Γ = some (.error e, Γ')) : runDef n c ds = some (.error e) := by
  rw [runDef_ap, h0, h]
theorem runDefM_to {n : Nat} {c : M Fl} {d0 d1 : D} {ds : List D} {f : Fl} {Γ Γ' : List Sl} {R : Option (Ans × D)} (h0 : st0 (n - 1) ds = Γ) (h : c (.own d0 :: Γ) = some (.ok f, .own d1 :: Γ')) (g : answerM f (.own d1 :: Γ') d1 = R) : runDefM n c d0 ds = R := by
  rw [runDefM_ap, h0, h]; exact g
theorem sLenO_ok {c : Nat} {φ : Fn} {cs : M (List D)} {Γ Γ' : List Sl} {d : D} {n : Int} (h : cs Γ = some (.ok [d], Γ')) (e : lenOF c φ [d] = some (.dat (.int n))) : sLenO c φ cs Γ = some (.ok (.dat (.int n)), Γ') := by
  rw [sLenO_ap, bnd_ok h, e]; exact lift_dat _
end DL

/-! EV3: dicts, two-clause comprehensions, bits, rows sorted, at a state. -/
namespace DL
open PySem L2 PyProof.Rows PySem.W
section
variable {α β : Type} {Γ : List Sl}
@[simp] theorem sLc2_ap (vs vs1 : List Nat) (ci : M (List D)) (g : D → M Unit) (ct : M Bool) (ci1 : M (List D)) (g1 : D → M Unit) (ct1 : M Bool) (ce : M Rf) : sLc2 vs vs1 ci g ct ci1 g1 ct1 ce Γ = bnd ci (lcM2 g ct ci1 g1 ct1 (cap ce) vs vs1) Γ := rfl
@[simp] theorem lcM2_ap (g : D → M Unit) (ct : M Bool) (ci1 : M (List D)) (g1 : D → M Unit) (ct1 : M Bool) (ce : M D) (vs vs1 : List Nat) (ds : List D) : lcM2 g ct ci1 g1 ct1 ce vs vs1 ds Γ = match loopL2 g ct ci1 g1 ct1 ce vs vs1 ds [] (wipeG Γ vs) with
  | some (.ok acc, Γ2) => some (.ok (.own (.lst acc)), unwipe Γ Γ2 vs)
  | _ => none := rfl
@[simp] theorem sDc_ap (vs : List Nat) (ci : M (List D)) (g : D → M Unit) (ct : M Bool) (ck cv : M Rf) : sDc vs ci g ct ck cv Γ = bnd ci (dcM g ct (cap ck) (cap cv) vs) Γ := rfl
@[simp] theorem dcM_ap (g : D → M Unit) (ct : M Bool) (ck cv : M D) (vs : List Nat) (ds : List D) : dcM g ct ck cv vs ds Γ = match loopDc g ct ck cv vs ds [] [] (wipeG Γ vs) with
  | some (.ok (ks, ws), Γ2) => some (.ok (.own (.dic ks ws)), unwipe Γ Γ2 vs)
  | _ => none := rfl
@[simp] theorem gDx_ap (a b : M Rf) (d : D) : gDx a b d Γ = bnd a (fun r => bnd (cap b) fun k => bnd (lendA putDM r [k, d]) fun _ => ret ()) Γ := rfl
@[simp] theorem putDM_dic (ks vs : List D) (x y : D) : putDM (.dic ks vs) [x, y] = if okPut ks x && decide (ks.length < big) then some (.ok (.dat .non), .dic (ptK ks x) (ptV ks vs x y)) else none := rfl
@[simp] theorem getD2_dic (ks vs : List D) (x : D) : getD2 (.dic ks vs) x = if okGet ks x then (lkD ks vs x).map .dat else none := rfl
@[simp] theorem inD2_dic (ks vs : List D) (x : D) : inD2 x (.dic ks vs) = if okGet ks x then some (.dat (.bl (hasD ks x))) else none := rfl
@[simp] theorem andD_int (i j : Int) : andD (.int i) (.int j) = some (.dat (.int (Builtin.bitAnd i j))) := rfl
@[simp] theorem xorD_int (i j : Int) : xorD (.int i) (.int j) = some (.dat (.int (Builtin.bitXor i j))) := rfl
@[simp] theorem shrD_int (i j : Int) : shrD (.int i) (.int j) = if 0 ≤ j then some (.dat (.int (i / 2 ^ j.toNat))) else none := rfl
@[simp] theorem shlD_int (i j : Int) : shlD (.int i) (.int j) = if 0 ≤ j ∧ j ≤ 1000000 ∧ i.natAbs < 18446744073709551616 then some (.dat (.int (i * 2 ^ j.toNat))) else none := rfl
@[simp] theorem eqD_bl (i j : Bool) : eqD (.bl i) (.bl j) = some (.dat (.bl (i == j))) := rfl
@[simp] theorem neD_bl (i j : Bool) : neD (.bl i) (.bl j) = some (.dat (.bl (!(i == j)))) := rfl
end
theorem blsD_map (bs : List Bool) : blsD (bs.map .bl) = some bs := by
  induction bs with
  | nil => rfl
  | cons b bs ih => show (blsD (bs.map .bl)).map (b :: ·) = _; rw [ih]; rfl
theorem allF_bls (bs : List Bool) : allF [.lst (bs.map .bl)] = some (.dat (.bl (bs.all id))) := by
  show (blsD (bs.map .bl)).map _ = _
  rw [blsD_map]; rfl
theorem anyF_bls (bs : List Bool) : anyF [.lst (bs.map .bl)] = some (.dat (.bl (bs.any id))) := by
  show (blsD (bs.map .bl)).map _ = _
  rw [blsD_map]; rfl
/-! ### loops -/
theorem sFor_to {c : M (List D)} {g : D → M Unit} {b : M Fl} {Γ Γ1 : List Sl} {ds : List D} {R : RR Fl} (h : c Γ = some (.ok ds, Γ1)) (k : loopF g b ds Γ1 = R) : sFor c g b Γ = R := by
  rw [sFor_ap, bnd_to h]; exact k
theorem sRng_to {f : List D → Option (List D)} {c : M (List D)} {Γ Γ1 : List Sl} {ds xs : List D} (h : c Γ = some (.ok ds, Γ1)) (k : f ds = some xs) : sRng f c Γ = some (.ok xs, Γ1) := by
  rw [sRng_ap, bnd_to h, k]; rfl
theorem opnd_d {a : M Rf} {Γ Γ1 : List Sl} {x : D} (h : a Γ = some (.ok (.dat x), Γ1)) : opnd a Γ = some (.ok (.dat x), Γ1) := by
  rw [opnd_ap, bnd_to h]; rfl
theorem opnd_o {a : M Rf} {Γ Γ1 : List Sl} {x : D} (h : a Γ = some (.ok (.own x), Γ1)) : opnd a Γ = some (.ok (.dat x), Γ1) := by
  rw [opnd_ap, bnd_to h]; rfl
theorem sBin_op {f : D → D → Option Rf} {a b : M Rf} {Γ Γ1 Γ2 : List Sl} {x y r : D} (ha : opnd a Γ = some (.ok (.dat x), Γ1)) (hb : opnd b Γ1 = some (.ok (.dat y), Γ2)) (hf : f x y = some (.dat r)) : sBin f a b Γ = some (.ok (.dat r), Γ2) := by
  rw [sBin_ap, bnd_to ha, bnd_to hb, app2_ap]
  simp [hf]
theorem sBin_dd {f : D → D → Option Rf} {a b : M Rf} {Γ Γ1 Γ2 : List Sl} {x y r : D} (ha : a Γ = some (.ok (.dat x), Γ1)) (hb : b Γ1 = some (.ok (.dat y), Γ2)) (hf : f x y = some (.dat r)) : sBin f a b Γ = some (.ok (.dat r), Γ2) := sBin_op (opnd_d ha) (opnd_d hb) hf
theorem sRet_to {c : M Rf} {Γ Γ1 : List Sl} {r : Rf} (h : c Γ = some (.ok r, Γ1)) : sRet c Γ = some (.ok (.rt r), Γ1) := by
  rw [sRet_ap, bnd_to h]; rfl
theorem sB_to {c : M Rf} {Γ Γ1 : List Sl} {b : Bool} (h : c Γ = some (.ok (.dat (.bl b)), Γ1)) : sB c Γ = some (.ok b, Γ1) := by
  rw [sB_ap, bnd_to h]; rfl
theorem sNotT_to {c : M Bool} {Γ Γ1 : List Sl} {b : Bool} (h : c Γ = some (.ok b, Γ1)) : sNotT c Γ = some (.ok (!b), Γ1) := by
  rw [sNotT_ap, bnd_to h]; rfl
theorem sIf_t {t : M Bool} {a b : M Fl} {Γ Γ1 : List Sl} {R : RR Fl} (h : t Γ = some (.ok true, Γ1)) (k : a Γ1 = R) : sIf t a b Γ = R := by
  rw [sIf_ap, bnd_to h, if_pos rfl]; exact k
theorem sIf_f {t : M Bool} {a b : M Fl} {Γ Γ1 : List Sl} {R : RR Fl} (h : t Γ = some (.ok false, Γ1)) (k : b Γ1 = R) : sIf t a b Γ = R := by
  rw [sIf_ap, bnd_to h, if_neg (by simp)]; exact k
theorem cap_d {c : M Rf} {Γ Γ1 : List Sl} {d : D} (h : c Γ = some (.ok (.dat d), Γ1)) : cap c Γ = some (.ok d, Γ1) := by
  rw [cap_ap, bnd_to h]; rfl
theorem cap_o {c : M Rf} {Γ Γ1 : List Sl} {d : D} (h : c Γ = some (.ok (.own d), Γ1)) : cap c Γ = some (.ok d, Γ1) := by
  rw [cap_ap, bnd_to h]; rfl
theorem sCons_to {a : M D} {r : M (List D)} {Γ Γ1 Γ2 : List Sl} {d : D} {ds : List D} (h : a Γ = some (.ok d, Γ1)) (k : r Γ1 = some (.ok ds, Γ2)) : sCons a r Γ = some (.ok (d :: ds), Γ2) := by
  rw [sCons_ap, bnd_to h, bnd_to k]; rfl
theorem sCallF_d {φ : Fn} {c : M (List D)} {Γ Γ1 : List Sl} {ds : List D} {d : D} (h : c Γ = some (.ok ds, Γ1)) (k : φ ds = some (.ok (.dat d))) : sCallF φ c Γ = some (.ok (.dat d), Γ1) := by
  rw [sCallF_ap, bnd_to h, k]; rfl
theorem sCallF_o {φ : Fn} {c : M (List D)} {Γ Γ1 : List Sl} {ds : List D} {d : D} (h : c Γ = some (.ok ds, Γ1)) (k : φ ds = some (.ok (.own d))) : sCallF φ c Γ = some (.ok (.own d), Γ1) := by
  rw [sCallF_ap, bnd_to h, k]; rfl
theorem sLc_to {vs : List Nat} {ci : M (List D)} {g : D → M Unit} {ct : M Bool} {ce : M Rf} {Γ Γ1 Γ2 : List Sl} {ds acc : List D} (h : ci Γ = some (.ok ds, Γ1)) (k : loopL g ct (cap ce) vs ds [] (wipeG Γ1 vs) = some (.ok acc, Γ2)) : sLc vs ci g ct ce Γ = some (.ok (.own (.lst acc)), unwipe Γ1 Γ2 vs) := by
  rw [sLc_ap, bnd_to h, lcM_ap, k]
theorem loopF_nx {g : D → M Unit} {b : M Fl} {d : D} {ds : List D} {Γ Γ1 Γ2 : List Sl} {R : RR Fl} (h : g d Γ = some (.ok (), Γ1)) (k : b Γ1 = some (.ok .nx, Γ2)) (r : loopF g b ds Γ2 = R) : loopF g b (d :: ds) Γ = R := by
  rw [loopF_cons, bnd_to h, bnd_to k]; exact r
theorem loopL_fmk {g : D → M Unit} {ct : M Bool} {ce : M D} {vs : List Nat} {Γ0 : List Sl} {p : D → Bool} {f : D → D} (ds acc : List D) (h : ∀ d ∈ ds, ∃ Γa Γb, g d Γ0 = some (.ok (), Γa) ∧ ct Γa = some (.ok (p d), Γb) ∧ (p d = false → wipeG Γb vs = Γ0) ∧ (p d = true → ∃ Γc, ce Γb = some (.ok (f d), Γc) ∧ wipeG Γc vs = Γ0)) (hl : acc.length + ds.length ≤ 1000000) :
    loopL g ct ce vs ds acc Γ0 = some (.ok (acc ++ (ds.filter p).map f), Γ0) := loopL_fm ds acc h (by omega)
/-- the outer loop of two: each turn glues f d -/
theorem loopL2_fm {g g1 : D → M Unit} {ct ct1 : M Bool} {ci1 : M (List D)} {ce : M D} {vs vs1 : List Nat} {Γ0 : List Sl} {f : D → List D} : ∀ (ds acc : List D), (∀ d ∈ ds, (f d).length ≤ 1000) → (∀ d ∈ ds, ∃ Γa Γb ds1 Γc, g d Γ0 = some (.ok (), Γa) ∧ ct Γa = some (.ok true, Γb) ∧ ci1 Γb = some (.ok ds1, Γc) ∧ ∀ acc : List D, acc.length ≤ 900000 → ∃ Γd, loopL g1 ct1 ce vs1 ds1 acc (wipeG Γc vs1) = some (.ok (acc ++ f d), Γd) ∧ wipeG Γd vs = Γ0) →
    acc.length + 1000 * ds.length ≤ 900000 → loopL2 g ct ci1 g1 ct1 ce vs vs1 ds acc Γ0 = some (.ok (acc ++ ds.flatMap f), Γ0)
  | [], acc, hf, h, hl => by simp [loopL2]
  | d :: ds, acc, hf, h, hl => by
    obtain ⟨Γa, Γb, ds1, Γc, h1, h2, h3, h4⟩ := h d (by simp)
    simp only [List.length_cons] at hl
    obtain ⟨Γd, h5, h6⟩ := h4 acc (by omega)
    have hd := hf d (by simp)
    have ih := loopL2_fm ds (acc ++ f d) (fun e he => hf e (by simp [he])) (fun e he => h e (by simp [he])) (by rw [List.length_append]; omega)
    have e : acc ++ (d :: ds).flatMap f = acc ++ f d ++ ds.flatMap f := by simp
    rw [e, ← ih]
    simp only [loopL2, h1, h2, h3, h5, h6]
/-- a dict of new keys, in their order -/
theorem loopDc_new {g : D → M Unit} {ck cv : M D} {vs : List Nat} {Γ0 : List Sl} {fk fv : D → D} {K : D → Bool} (hK : ∀ (x : D) (ks : List D), K x = true → ks.all K = true → okPut ks x = true) : ∀ (ds ks ws : List D), (∀ d ∈ ds, ∃ Γa Γc Γd, g d Γ0 = some (.ok (), Γa) ∧ ck Γa = some (.ok (fk d), Γc) ∧ cv Γc = some (.ok (fv d), Γd) ∧ wipeG Γd vs = Γ0) →
    (∀ d ∈ ds, K (fk d) = true) → ks.all K = true → (ks ++ ds.map fk).Pairwise (fun a b => kE a b = false) → ks.length + ds.length ≤ 100000 → loopDc g (ret true) ck cv vs ds ks ws Γ0 = some (.ok (ks ++ ds.map fk, ws ++ ds.map fv), Γ0)
  | [], ks, ws, h, k1, k2, hp, hl => by simp [loopDc]
  | d :: ds, ks, ws, h, k1, k2, hp, hl => by
    obtain ⟨Γa, Γc, Γd, h1, h2, h3, h4⟩ := h d (by simp)
    simp only [List.length_cons] at hl
    have no : hasD ks (fk d) = false := by
      unfold hasD
      rw [List.any_eq_false]
      intro k hk
      rw [List.pairwise_append] at hp
      simp [hp.2.2 k hk (fk d) (by simp)]
    have e1 : ptK ks (fk d) = ks ++ [fk d] := by unfold ptK; rw [no]; rfl
    have e2 : ptV ks ws (fk d) (fv d) = ws ++ [fv d] := by unfold ptV; rw [no]; rfl
    have e3 := hK (fk d) ks (k1 d (by simp)) k2
    have ih := loopDc_new hK ds (ks ++ [fk d]) (ws ++ [fv d]) (fun e he => h e (by simp [he])) (fun e he => k1 e (by simp [he])) (by rw [List.all_append, k2]; simp [k1 d (by simp)]) (by simpa using hp) (by rw [List.length_append, List.length_singleton]; omega)
    have e : ks ++ (d :: ds).map fk = ks ++ [fk d] ++ ds.map fk := by simp
    have e' : ws ++ (d :: ds).map fv = ws ++ [fv d] ++ ds.map fv := by simp
    rw [e, e', ← ih]
    simp only [loopDc, h1, h2, h3, h4, ret_ap, e1, e2, e3]
    rw [if_pos (by rw [Bool.true_and]; exact decide_eq_true (by show ks.length < 16777216; omega))]
theorem okPut_tup (x : D) (ks : List D) (h : tupK x = true) (g : ks.all tupK = true) : okPut ks x = true := by
  unfold okPut
  rw [h, g]; simp
theorem okPut_str (x : D) (ks : List D) (h : isStrD x = true) (g : ks.all isStrD = true) : okPut ks x = true := by
  have a : ∀ d : D, isStrD d = true → atomK d = true := fun d hd => by cases d <;> first | rfl | cases hd
  unfold okPut
  rw [a x h, show ks.all atomK = true from List.all_eq_true.mpr fun d hd => a d (List.all_eq_true.mp g d hd)]; rfl
/-! ### rows of three numbers, sorted -/
theorem dataLt_iii (x y z x' y' z' : Int) : dataLt (.tuple [.int x, .int y, .int z]) (.tuple [.int x', .int y', .int z']) = decide (x < x' ∨ x = x' ∧ (y < y' ∨ y = y' ∧ z < z')) := by
  rw [dataLt_tuple, dataLt_cons (by simp [alike]), dataLt_cons (by simp [alike]), dataLt_cons (by simp [alike]), dataLt_int, dataLt_int, dataLt_int]
  have e : PyProof.Rows.lexLt itemOrd (keyToksAll []) (keyToksAll []) = false := lex_irrefl _
  rw [e]
  simp only [PyData.eqv, beq_iff_eq]
  by_cases h1 : x = x' <;> by_cases h2 : y = y' <;> by_cases h3 : z = z' <;> simp [h1, h2, h3]
def tri (w : Nat → Nat → Int) (p : Nat × Nat) : D := .tup [.int p.1, .int p.2, .int (w p.1 p.2)]
def leP (p q : Nat × Nat) : Bool := decide (p.1 < q.1 ∨ p.1 = q.1 ∧ p.2 ≤ q.2)
theorem le_tri (w : Nat → Nat → Int) (p q : Nat × Nat) : dataLe false py (tri w p) (tri w q) = leP p q := by
  obtain ⟨a, b⟩ := p
  obtain ⟨c, d⟩ := q
  show (!dataLt (.tuple [.int c, .int d, .int (w c d)]) (.tuple [.int a, .int b, .int (w a b)])) = _
  rw [dataLt_iii]
  unfold leP
  rw [← decide_not]
  refine decide_eq_decide.mpr ?_
  by_cases h : a = c ∧ b = d
  · obtain ⟨rfl, rfl⟩ := h
    simp
  · simp only
    omega
theorem sort_tri (w : Nat → Nat → Int) {ps qs : List (Nat × Nat)} (hp : qs.Perm ps) (hs : qs.Pairwise fun p q => leP p q = true) : sortedF [.lst (ps.map (tri w))] = some (.own (.lst (qs.map (tri w)))) := by
  have h1 : sortsB (ps.map (tri w)) = true := by
    unfold sortsB
    simp only [Bool.and_eq_true, Bool.or_eq_true, List.all_eq_true, List.mem_map, forall_exists_index, and_imp, forall_apply_eq_imp_iff₂]
    exact ⟨⟨fun a _ => rfl, fun a _ b _ => rfl⟩, .inl fun a _ => rfl⟩
  have h2 : sortD (ps.map (tri w)) = (ps.mergeSort leP).map (tri w) := (List.map_mergeSort fun a _ b _ => (le_tri w a b).symm).symm
  have h3 : ps.mergeSort leP = qs := by
    have s := List.pairwise_mergeSort (le := leP) (fun a b c h1 h2 => by
      have h1 := of_decide_eq_true h1
      have h2 := of_decide_eq_true h2
      exact decide_eq_true (by omega)) (fun a b => by
      simp only [leP, Bool.or_eq_true, decide_eq_true_eq]; omega) ps
    refine List.Perm.eq_of_pairwise (fun a b _ _ h1 h2 => ?_) s hs ((List.mergeSort_perm ps leP).trans hp.symm)
    have h1 := of_decide_eq_true h1
    have h2 := of_decide_eq_true h2
    obtain ⟨a1, a2⟩ := a
    obtain ⟨b1, b2⟩ := b
    simp only at h1 h2
    have : a1 = b1 := by omega
    have : a2 = b2 := by omega
    simp [*]
  show (if _ then _ else _) = _
  rw [if_pos h1, h2, h3]
end DL

/-! EV4: loops over fresh objects, own +, at a state. -/
namespace DL
open PySem L2
section
variable {Γ : List Sl}
@[simp] theorem ownO_ap (c : M Rf) : ownO c Γ = bnd c (fun r => match r with
  | .own d => ret d
  | _ => fail) Γ := rfl
@[simp] theorem sLcO_ap (vs : List Nat) (ci : M (List D)) (g : D → M Unit) (ct : M Bool) (ce : M Rf) : sLcO vs ci g ct ce Γ = bnd ci (lcO g ct (ownO ce) vs) Γ := rfl
@[simp] theorem lcO_ap (g : D → M Unit) (ct : M Bool) (ce : M D) (vs : List Nat) (ds : List D) : lcO g ct ce vs ds Γ = match loopL g ct ce vs ds [] (wipeG Γ vs) with
  | some (.ok acc, Γ2) => some (.ok acc, unwipe Γ Γ2 vs)
  | _ => none := rfl
@[simp] theorem sAddO_ap (c : Nat) (φ : Fn) (a b : M Rf) : sAddO c φ a b Γ = bnd (cap a) (fun x => bnd (cap b) fun y => addA c φ x y) Γ := rfl
theorem sLcO_to {vs : List Nat} {ci : M (List D)} {g : D → M Unit} {ct : M Bool} {ce : M Rf} {Γ1 Γ2 : List Sl} {ds acc : List D} (h : ci Γ = some (.ok ds, Γ1)) (k : loopL g ct (ownO ce) vs ds [] (wipeG Γ1 vs) = some (.ok acc, Γ2)) : sLcO vs ci g ct ce Γ = some (.ok acc, unwipe Γ1 Γ2 vs) := by
  rw [sLcO_ap, bnd_to h, lcO_ap, k]
theorem addA_to {c : Nat} {φ : Fn} {fs : List Str} {vs : List D} {i : Int} {d : D} (h : φ [.ins c fs vs, .int i] = some (.ok (.own d))) : addA c φ (.ins c fs vs) (.int i) Γ = some (.ok (.own d), Γ) := by
  have e : addA c φ (.ins c fs vs) (.int i) = (match φ [.ins c fs vs, .int i] with
    | some (.ok (.own d)) => liftX (some (.ok (.own d)))
    | _ => fail) := if_pos rfl
  rw [e, h]; rfl
end
end DL

/-! EV5: get, dict, walks over dicts, at a state. -/
namespace DL
open PySem L2
section
variable {Γ : List Sl}
@[simp] theorem sGet_ap (a b c : M Rf) : sGet a b c Γ = bnd (opnd a) (fun x => bnd (chkD x) fun _ => bnd (cap b) fun k => bnd (cap c) fun y => appG x k y) Γ := rfl
@[simp] theorem chkD_ap (x : Rf) : chkD x Γ = if isDicD (rsv Γ x) then some (.ok (), Γ) else none := rfl
@[simp] theorem appG_ap (x : Rf) (k y : D) : appG x k y Γ = match rsv Γ x with
  | some d => lift (getD3 [d, k, y]) Γ
  | none => none := rfl
theorem isDicD_dic (ks vs : List D) : isDicD (some (.dic ks vs)) = true := rfl
theorem sKeys_dat {i : Nat} {ks vs : List D} (h : Γ[i]? = some (.dat (.dic ks vs))) (n : ks.isEmpty = false) (a : ks.all atomK = true) : sKeys i Γ = some (.ok ks, Γ) := by
  unfold sKeys; rw [h]; simp [n, a]
theorem sKeys_own {i : Nat} {ks vs : List D} (h : Γ[i]? = some (.own (.dic ks vs))) (n : ks.isEmpty = false) (a : ks.all atomK = true) : sKeys i Γ = some (.ok ks, Γ.set i (.dat (.dic ks vs))) := by
  unfold sKeys; rw [h]; simp [n, a]
end
end DL

namespace G
open PySem PySem.Spec PyProof.Rows L2 DL

def top (i : Nat) : Stmt := PySem.Challenge.pw_heardorder_k39_bells_that_meet.main.body.getD i (.Pass ⟨0, 0, 0, 0⟩)
abbrev s_law_source : Stmt := (top 38)
theorem sc_law_source : FnScope ["_law_script", "_law_k", "_law_cell"] ["_law_script", "_law_k"] (defScope s_law_source) := ⟨rfl, rfl, rfl, by decide +kernel, rfl, by decide +kernel, by decide +kernel⟩
abbrev s_law_next : Stmt := (top 39)
theorem sc_law_next : FnScope ["_law_source_here", "_law_many", "_law_found", "_law_primes", "_law_prime"] ["_law_source_here", "_law_many"] (defScope s_law_next) := ⟨rfl, rfl, rfl, by decide +kernel, rfl, by decide +kernel, by decide +kernel⟩
abbrev s_law_mixed : Stmt := (top 40)
theorem sc_law_mixed : FnScope ["_law_source_here", "_law_items", "_law_rest", "_law_found"] ["_law_source_here", "_law_items"] (defScope s_law_mixed) := ⟨rfl, rfl, rfl, by decide +kernel, rfl, by decide +kernel, by decide +kernel⟩
abbrev s_law_great_bells : Stmt := (top 46)
theorem sc_law_great_bells : FnScope ["_law_source_here", "_law_names", "_law_name"] ["_law_source_here"] (defScope s_law_great_bells) := ⟨rfl, rfl, rfl, by decide +kernel, rfl, by decide +kernel, by decide +kernel⟩
abbrev s_law_bells : Stmt := (top 41)
theorem sc_law_bells : FnScope ["_law_source_here", "_law_top", "_law_found", "_law_room", "_law_name", "_law_period"] ["_law_source_here", "_law_top"] (defScope s_law_bells) := ⟨rfl, rfl, rfl, by decide +kernel, rfl, by decide +kernel, by decide +kernel⟩
abbrev s_law_divisor : Stmt := (top 45)
theorem sc_law_divisor : FnScope ["_law_one", "_law_other"] ["_law_one", "_law_other"] (defScope s_law_divisor) := ⟨rfl, rfl, rfl, by decide +kernel, rfl, by decide +kernel, by decide +kernel⟩
abbrev s_law_round_of : Stmt := (top 47)
theorem sc_law_round_of : FnScope ["_law_bells_here", "_law_found", "_law_name", "_law_period"] ["_law_bells_here"] (defScope s_law_round_of) := ⟨rfl, rfl, rfl, by decide +kernel, rfl, by decide +kernel, by decide +kernel⟩
abbrev s_law_at : Stmt := (top 43)
theorem sc_law_at : FnScope ["_law_bells_here", "_law_row_here", "_law_time", "_law_found", "_law_name", "_law_period", "_law_x"] ["_law_bells_here", "_law_row_here", "_law_time"] (defScope s_law_at) := ⟨rfl, rfl, rfl, by decide +kernel, rfl, by decide +kernel, by decide +kernel⟩
abbrev s_law_tally : Stmt := (top 48)
theorem sc_law_tally : FnScope ["_law_bells_here", "_law_row_here", "_law_found", "_law_time", "_law_chime"] ["_law_bells_here", "_law_row_here"] (defScope s_law_tally) := ⟨rfl, rfl, rfl, by decide +kernel, rfl, by decide +kernel, by decide +kernel⟩
abbrev s_Tower_periods : Stmt := (inClass (top 21) 9)
theorem sc_Tower_periods : FnScope ["self"] ["self"] (defScope s_Tower_periods) := ⟨rfl, rfl, rfl, by decide +kernel, rfl, by decide +kernel, by decide +kernel⟩
abbrev s_is_integer : Stmt := (top 14)
theorem sc_is_integer : FnScope ["value", "least", "most"] ["value", "least", "most"] (defScope s_is_integer) := ⟨rfl, rfl, rfl, by decide +kernel, rfl, by decide +kernel, by decide +kernel⟩
abbrev s_need_firsts : Stmt := (top 20)
theorem sc_need_firsts : FnScope ["tower", "value", "periods", "index", "period"] ["tower", "value"] (defScope s_need_firsts) := ⟨rfl, rfl, rfl, by decide +kernel, rfl, by decide +kernel, by decide +kernel⟩
abbrev s_pairs_of : Stmt := (top 3)
theorem sc_pairs_of : FnScope ["many", "one", "other"] ["many"] (defScope s_pairs_of) := ⟨rfl, rfl, rfl, by decide +kernel, rfl, by decide +kernel, by decide +kernel⟩
abbrev s_place_of : Stmt := (top 4)
theorem sc_place_of : FnScope ["difference", "divisor"] ["difference", "divisor"] (defScope s_place_of) := ⟨rfl, rfl, rfl, by decide +kernel, rfl, by decide +kernel, by decide +kernel⟩
abbrev s_divisor_of : Stmt := (top 2)
theorem sc_divisor_of : FnScope ["one", "other"] ["one", "other"] (defScope s_divisor_of) := ⟨rfl, rfl, rfl, by decide +kernel, rfl, by decide +kernel, by decide +kernel⟩
abbrev s_places_of : Stmt := (top 5)
theorem sc_places_of : FnScope ["periods", "firsts", "found", "one", "other"] ["periods", "firsts"] (defScope s_places_of) := ⟨rfl, rfl, rfl, by decide +kernel, rfl, by decide +kernel, by decide +kernel⟩
abbrev s_Tower_names : Stmt := (inClass (top 21) 8)
theorem sc_Tower_names : FnScope ["self"] ["self"] (defScope s_Tower_names) := ⟨rfl, rfl, rfl, by decide +kernel, rfl, by decide +kernel, by decide +kernel⟩
abbrev s_Tower_full_round : Stmt := (inClass (top 21) 10)
theorem sc_Tower_full_round : FnScope ["self"] ["self"] (defScope s_Tower_full_round) := ⟨rfl, rfl, rfl, by decide +kernel, rfl, by decide +kernel, by decide +kernel⟩
abbrev s_common_multiple : Stmt := (top 19)
theorem sc_common_multiple : FnScope ["numbers", "found", "number", "one", "other"] ["numbers"] (defScope s_common_multiple) := ⟨rfl, rfl, rfl, by decide +kernel, rfl, by decide +kernel, by decide +kernel⟩
abbrev s_meeting_counts : Stmt := (top 23)
theorem sc_meeting_counts : FnScope ["tower", "places", "periods", "even", "found", "bits", "members", "pair", "place", "bell", "one", "other"] ["tower", "places"] (defScope s_meeting_counts) := ⟨rfl, rfl, rfl, by decide +kernel, rfl, by decide +kernel, by decide +kernel⟩
abbrev s_bit_count_of : Stmt := (top 24)
theorem sc_bit_count_of : FnScope ["bits", "found"] ["bits"] (defScope s_bit_count_of) := ⟨rfl, rfl, rfl, by decide +kernel, rfl, by decide +kernel, by decide +kernel⟩
abbrev s_counts_of : Stmt := (top 25)
theorem sc_counts_of : FnScope ["tower", "places", "together", "names", "found", "bits", "exact", "more", "chime", "bell", "name"] ["tower", "places"] (defScope s_counts_of) := ⟨rfl, rfl, rfl, by decide +kernel, rfl, by decide +kernel, by decide +kernel⟩
abbrev s_Song___init : Stmt := (inClass (top 36) 0)
theorem sc_Song___init : FnScope ["self", "tower", "firsts"] ["self", "tower", "firsts"] (defScope s_Song___init) := ⟨rfl, rfl, rfl, by decide +kernel, rfl, by decide +kernel, by decide +kernel⟩
abbrev s_is_name : Stmt := (top 15)
theorem sc_is_name : FnScope ["value"] ["value"] (defScope s_is_name) := ⟨rfl, rfl, rfl, by decide +kernel, rfl, by decide +kernel, by decide +kernel⟩
abbrev s_is_bell : Stmt := (top 17)
theorem sc_is_bell : FnScope ["value"] ["value"] (defScope s_is_bell) := ⟨rfl, rfl, rfl, by decide +kernel, rfl, by decide +kernel, by decide +kernel⟩
abbrev s_tower_faults : Stmt := (top 18)
theorem sc_tower_faults : FnScope ["value", "before", "index", "bell"] ["value"] (defScope s_tower_faults) := ⟨rfl, rfl, rfl, by decide +kernel, rfl, by decide +kernel, by decide +kernel⟩
abbrev s_Tower___init : Stmt := (inClass (top 21) 3)
theorem sc_Tower___init : FnScope ["self", "bells", "index", "name", "period"] ["self", "bells"] (defScope s_Tower___init) := ⟨rfl, rfl, rfl, by decide +kernel, rfl, by decide +kernel, by decide +kernel⟩
abbrev s_law_sets : Stmt := (top 44)
theorem sc_law_sets : FnScope ["_law_bells_here", "_law_found", "_law_name", "_law_period", "_law_chime"] ["_law_bells_here"] (defScope s_law_sets) := ⟨rfl, rfl, rfl, by decide +kernel, rfl, by decide +kernel, by decide +kernel⟩
abbrev s_Song_pattern : Stmt := (inClass (top 36) 3)
theorem sc_Song_pattern : FnScope ["self"] ["self"] (defScope s_Song_pattern) := ⟨rfl, rfl, rfl, by decide +kernel, rfl, by decide +kernel, by decide +kernel⟩
abbrev s_Tower___len : Stmt := (inClass (top 21) 11)
theorem sc_Tower___len : FnScope ["self"] ["self"] (defScope s_Tower___len) := ⟨rfl, rfl, rfl, by decide +kernel, rfl, by decide +kernel, by decide +kernel⟩
abbrev s_Song_tower : Stmt := (inClass (top 36) 1)
theorem sc_Song_tower : FnScope ["self"] ["self"] (defScope s_Song_tower) := ⟨rfl, rfl, rfl, by decide +kernel, rfl, by decide +kernel, by decide +kernel⟩
abbrev s_do_meet : Stmt := (top 28)
theorem sc_do_meet : FnScope ["song", "members", "even", "pair", "place", "one", "other"] ["song", "members"] (defScope s_do_meet) := ⟨rfl, rfl, rfl, by decide +kernel, rfl, by decide +kernel, by decide +kernel⟩
abbrev s_is_chime : Stmt := (top 16)
theorem sc_is_chime : FnScope ["names", "value", "name"] ["names", "value"] (defScope s_is_chime) := ⟨rfl, rfl, rfl, by decide +kernel, rfl, by decide +kernel, by decide +kernel⟩
abbrev s_members_of : Stmt := (top 27)
theorem sc_members_of : FnScope ["song", "names", "bell", "name"] ["song", "names"] (defScope s_members_of) := ⟨rfl, rfl, rfl, by decide +kernel, rfl, by decide +kernel, by decide +kernel⟩
abbrev s_meets : Stmt := (top 29)
theorem sc_meets : FnScope ["song", "names"] ["song", "names"] (defScope s_meets) := ⟨rfl, rfl, rfl, by decide +kernel, rfl, by decide +kernel, by decide +kernel⟩
abbrev s_law_small_right : Stmt := (top 49)
theorem sc_law_small_right : FnScope ["_law_bells_here", "_law_row_here", "_law_tune", "_law_tally_here", "_law_some", "_law_due", "_law_chime", "_law_name"] ["_law_bells_here", "_law_row_here"] (defScope s_law_small_right) := ⟨rfl, rfl, rfl, by decide +kernel, rfl, by decide +kernel, by decide +kernel⟩
abbrev s_law_row : Stmt := (top 42)
theorem sc_law_row : FnScope ["_law_source_here", "_law_bells_here", "_law_name", "_law_period"] ["_law_source_here", "_law_bells_here"] (defScope s_law_row) := ⟨rfl, rfl, rfl, by decide +kernel, rfl, by decide +kernel, by decide +kernel⟩
abbrev s_law_great_right : Stmt := (top 50)
theorem sc_law_great_right : FnScope ["_law_bells_here", "_law_row_here", "_law_tune", "_law_apart", "_law_j", "_law_i", "_law_some", "_law_due", "_law_pair"] ["_law_bells_here", "_law_row_here"] (defScope s_law_great_right) := ⟨rfl, rfl, rfl, by decide +kernel, rfl, by decide +kernel, by decide +kernel⟩
abbrev s_law : Stmt := (top 51)
theorem sc_law : FnScope ["_law_script", "_law_k", "_law_source_here", "_law_small", "_law_great"] ["_law_script"] (defScope s_law) := ⟨rfl, rfl, rfl, by decide +kernel, rfl, by decide +kernel, by decide +kernel⟩
abbrev s_InvalidFirsts___init : Stmt := (inClass (top 10) 0)
theorem sc_InvalidFirsts___init : FnScope ["self", "index"] ["self", "index"] (defScope s_InvalidFirsts___init) := ⟨rfl, rfl, rfl, by decide +kernel, rfl, by decide +kernel, by decide +kernel⟩
abbrev s_InvalidTower___init : Stmt := (inClass (top 8) 0)
theorem sc_InvalidTower___init : FnScope ["self", "index"] ["self", "index"] (defScope s_InvalidTower___init) := ⟨rfl, rfl, rfl, by decide +kernel, rfl, by decide +kernel, by decide +kernel⟩
abbrev s_InvalidName___init : Stmt := (inClass (top 9) 0)
theorem sc_InvalidName___init : FnScope ["self", "value"] ["self", "value"] (defScope s_InvalidName___init) := ⟨rfl, rfl, rfl, by decide +kernel, rfl, by decide +kernel, by decide +kernel⟩
abbrev k_BellError : Nat := 0
abbrev k_InvalidTower : Nat := 1
abbrev k_InvalidName : Nat := 2
abbrev k_InvalidFirsts : Nat := 3
abbrev k_InvalidNumber : Nat := 4
abbrev k_Tower : Nat := 5
abbrev k_Song : Nat := 6
def isE : Nat → Bool := fun c => match c with
  | 0 => true
  | 1 => true
  | 2 => true
  | 3 => true
  | 4 => true
  | _ => false
def isTb : Nat → Nat → Option Bool := fun c d => match c, d with
  | _, _ => none
def isBt : Nat → String → Bool := fun c n => match c with
  | _ => false
def isiG : List D → Option Rf := isiOF isE isTb (fun _ _ => none) isBt
noncomputable def c_law_source : M Fl :=
 (sSeq (sSet 2 (sIfE (sB (sBin neD (sVar 0) (sLst sNil))) (sBin ixD (sVar 0) (sBin modD (sVar 1) (sCB lenF (oCons (sVar 0) oNil)))) (sK (.int 1))))
 (sRet (sLst (sCons (cap (sVar 2)) (sCons (cap (sBin mulD (sK (.int 3)) (sVar 1))) (sCons (cap (sIfE (sB (sBin geD (sVar 2) (sBin powD (sK (.int 10)) (sK (.int 18))))) (sBin divD (sVar 2) (sBin powD (sK (.int 10)) (sK (.int 18)))) (sK (.int 0)))) sNil))))))
noncomputable def F_law_source : Fn := runDef 3 c_law_source
noncomputable def c_law_next : M Fl :=
 (sSeq (sIf (sB (sBin gtD (sBin ixD (sVar 0) (sK (.int 2))) (sK (.int 0))))
 (sSeq (sSet 2 (sBin modD (sBin ixD (sVar 0) (sK (.int 2))) (sVar 1)))
 (sSeq (sAsg (gIx (sVar 0) (sK (.int 2))) (sBin divD (sBin ixD (sVar 0) (sK (.int 2))) (sVar 1)))
 (sRet (sVar 2))))
 sSkip)
 (sSeq (sAsg (gIx (sVar 0) (sK (.int 1))) (sBin addD (sBin ixD (sVar 0) (sK (.int 1))) (sK (.int 1))))
 (sSeq (sSet 3 (sLst (sCons (cap (sK (.int 2147483647))) (sCons (cap (sK (.int 2147483629))) (sCons (cap (sK (.int 2147483587))) (sCons (cap (sK (.int 2147483579))) (sCons (cap (sK (.int 2147483563))) (sCons (cap (sK (.int 2147483549))) (sCons (cap (sK (.int 2147483543))) (sCons (cap (sK (.int 2147483497))) sNil))))))))))
 (sSeq (sSet 4 (sBin ixD (sBin addD (sVar 3) (sLst (sCons (cap (sK (.int 2147483489))) (sCons (cap (sK (.int 2147483477))) (sCons (cap (sK (.int 2147483423))) sNil))))) (sBin modD (sBin ixD (sVar 0) (sK (.int 1))) (sK (.int 11)))))
 (sRet (sBin modD (sBin divD (sBin modD (sBin powD (sBin addD (sBin addD (sBin modD (sBin ixD (sVar 0) (sK (.int 0))) (sVar 4)) (sBin mulD (sK (.int 7919)) (sBin ixD (sVar 0) (sK (.int 1))))) (sK (.int 1))) (sK (.int 5))) (sVar 4)) (sK (.int 13))) (sVar 1)))))))
noncomputable def F_law_next : Fm := runDefM 5 c_law_next
noncomputable def c_law_mixed : M Fl :=
 (sSeq (sPar [2, 3] (rCons (sCB listF (oCons (sVar 1) oNil)) (rCons (sLst sNil) rNil)))
 (sSeq (sWhile (sB (sBin neD (sVar 2) (sLst sNil)))
 (sDrop (sMut isLst appendM (sVar 3) (sCons (cap (sMut isLst popAtM (sVar 2) (sCons (cap (sCallM (argM 2 F_law_next) (sVar 0) (sCons (cap (sCB lenF (oCons (sVar 2) oNil))) sNil))) sNil))) sNil))))
 (sRet (sVar 3))))
noncomputable def F_law_mixed : Fm := runDefM 4 c_law_mixed
noncomputable def c_law_great_bells : M Fl :=
 (sSeq (sSet 1 (sCB sortedF (oCons (sSli (sCallM (argM 2 F_law_mixed) (sVar 0) (sCons (cap (sCB listF (oCons (sK (.str "abcdmz")) oNil))) sNil)) (ret none) (sPart (sBin addD (sK (.int 4)) (sCallM (argM 2 F_law_next) (sVar 0) (sCons (cap (sK (.int 2))) sNil))))) oNil)))
 (sRet (sCB tupleF (oCons (sLc [2] (sIter (sVar 1)) (gSet 2) (ret true) (sTup (sCons (cap (sVar 2)) (sCons (cap (sBin addD (sK (.int 1)) (sCallM (argM 2 F_law_next) (sVar 0) (sCons (cap (sK (.int 30))) sNil)))) sNil)))) oNil))))
noncomputable def F_law_great_bells : Fm := runDefM 3 c_law_great_bells
noncomputable def c_law_bells : M Fl :=
 (sSeq (sPar [2, 3] (rCons (sLst sNil) (rCons (sVar 1) rNil)))
 (sSeq (sFor (sIter (sCB sortedF (oCons (sSli (sCallM (argM 2 F_law_mixed) (sVar 0) (sCons (cap (sCB listF (oCons (sK (.str "abcdmz")) oNil))) sNil)) (ret none) (sPart (sBin addD (sK (.int 1)) (sCallM (argM 2 F_law_next) (sVar 0) (sCons (cap (sK (.int 4))) sNil))))) oNil))) (gSet 4)
 (sSeq (sSet 5 (sBin addD (sK (.int 1)) (sCallM (argM 2 F_law_next) (sVar 0) (sCons (cap (sCB minF (oCons (sVar 3) (oCons (sK (.int 12)) oNil)))) sNil))))
 (sSeq (sDrop (sMut isLst appendM (sVar 2) (sCons (cap (sTup (sCons (cap (sVar 4)) (sCons (cap (sVar 5)) sNil)))) sNil)))
 (sSet 3 (sBin divD (sVar 3) (sVar 5))))))
 (sRet (sCB tupleF (oCons (sVar 2) oNil)))))
noncomputable def F_law_bells : Fm := runDefM 6 c_law_bells
noncomputable def c_law_divisor : M Fl :=
 (sSeq (sWhile (sB (sBin neD (sVar 1) (sK (.int 0))))
 (sPar [0, 1] (rCons (sVar 1) (rCons (sBin modD (sVar 0) (sVar 1)) rNil))))
 (sRet (sVar 0)))
noncomputable def F_law_divisor : Fn := runDef 2 c_law_divisor
noncomputable def c_law_round_of : M Fl :=
 (sSeq (sSet 1 (sK (.int 1)))
 (sSeq (sFor (sIter (sVar 0)) (gTupD 2 (gMore (gSet 2) (gMore (gSet 3) gNone)))
 (sSet 1 (sBin divD (sBin mulD (sVar 1) (sVar 3)) (sCallF (argN 2 F_law_divisor) (sCons (cap (sVar 1)) (sCons (cap (sVar 3)) sNil))))))
 (sRet (sVar 1))))
noncomputable def F_law_round_of : Fn := runDef 4 c_law_round_of
noncomputable def c_law_at : M Fl :=
 (sSeq (sSet 3 (sK (.str "")))
 (sSeq (sFor (sRng zipA2 (sCons (cap (sVar 0)) (sCons (cap (sVar 1)) sNil))) (gTupD 2 (gMore (gTupD 2 (gMore (gSet 4) (gMore (gSet 5) gNone))) (gMore (gSet 6) gNone)))
 (sSet 3 (sBin addD (sVar 3) (sIfE (sB (sBin eqD (sBin modD (sVar 2) (sVar 5)) (sVar 6))) (sVar 4) (sK (.str ""))))))
 (sRet (sVar 3))))
noncomputable def F_law_at : Fn := runDef 7 c_law_at
noncomputable def c_law_tally : M Fl :=
 (sSeq (sSet 2 sDic0)
 (sSeq (sFor (sRng range1 (sCons (cap (sCallF (argN 1 F_law_round_of) (sCons (cap (sVar 0)) sNil))) sNil)) (gSet 3)
 (sSeq (sSet 4 (sCallF (argN 3 F_law_at) (sCons (cap (sVar 0)) (sCons (cap (sVar 1)) (sCons (cap (sVar 3)) sNil)))))
 (sIf (sB (sBin neD (sVar 4) (sK (.str ""))))
 (sAsg (gDx (sVar 2) (sVar 4)) (sBin addD (sGet (sVar 2) (sVar 4) (sK (.int 0))) (sK (.int 1))))
 sSkip)))
 (sRet (sCB dictF (oCons (sLc [4] (sIter (sCB sortedD2 (oCons (sVar 2) oNil))) (gSet 4) (ret true) (sTup (sCons (cap (sVar 4)) (sCons (cap (sBin getD2 (sVar 2) (sVar 4))) sNil)))) oNil)))))
noncomputable def F_law_tally : Fn := runDef 5 c_law_tally
noncomputable def c_Tower_periods : M Fl :=
 (sRet (sOne (fldF 5 "own_periods") (sVar 0)))
noncomputable def F_Tower_periods : Fn := runDef 1 c_Tower_periods
noncomputable def c_is_integer : M Fl :=
 (sSeq (sIf (sOrT (sNotT (sB (sCB isiG (oCons (sVar 0) (oCons (sK (.ty "int")) oNil))))) (sB (sCB isiG (oCons (sVar 0) (oCons (sK (.ty "bool")) oNil)))))
 (sRet (sK (.bl false)))
 sSkip)
 (sRet (sAndV (sOrV (sIsN (sVar 1)) (sBin leD (sVar 1) (sVar 0))) (sOrV (sIsN (sVar 2)) (sBin leD (sVar 0) (sVar 2))))))
noncomputable def F_is_integer : Fn := runDef 3 c_is_integer
noncomputable def c_need_firsts : M Fl :=
 (sSeq (sSet 2 (sProp 5 F_Tower_periods (sVar 0)))
 (sSeq (sIf (sOrT (sNotT (sB (sCB isiG (oCons (sVar 1) (oCons (sK (.ty "tuple")) oNil))))) (sB (sBin neD (sCB lenF (oCons (sVar 1) oNil)) (sCB lenF (oCons (sVar 2) oNil)))))
 (sRaise 3 ["index"] (sCons (cap (sK .non)) sNil))
 sSkip)
 (sFor (sRng enumA (sCons (cap (sVar 2)) sNil)) (gTupD 2 (gMore (gSet 3) (gMore (gSet 4) gNone)))
 (sIf (sNotT (sB (sCallF (argN 3 F_is_integer) (sCons (cap (sBin ixD (sVar 1) (sVar 3))) (sCons (cap (sK (.int 0))) (sCons (cap (sBin subD (sVar 4) (sK (.int 1)))) sNil))))))
 (sRaise 3 ["index"] (sCons (cap (sVar 3)) sNil))
 sSkip))))
noncomputable def F_need_firsts : Fn := runDef 5 c_need_firsts
noncomputable def c_pairs_of : M Fl :=
 (sRet (sLc2 [1, 2] [2] (sRng range1 (sCons (cap (sVar 0)) sNil)) (gSet 1) (ret true) (sRng range2 (sCons (cap (sBin addD (sVar 1) (sK (.int 1)))) (sCons (cap (sVar 0)) sNil))) (gSet 2) (ret true) (sTup (sCons (cap (sVar 1)) (sCons (cap (sVar 2)) sNil)))))
noncomputable def F_pairs_of : Fn := runDef 3 c_pairs_of
noncomputable def c_place_of : M Fl :=
 (sRet (sBin subD (sBin divD (sVar 0) (sVar 1)) (sBin divD (sBin subD (sK (.int 0)) (sVar 0)) (sVar 1))))
noncomputable def F_place_of : Fn := runDef 2 c_place_of
noncomputable def c_divisor_of : M Fl :=
 (sSeq (sWhile (sB (sBin gtD (sVar 1) (sK (.int 0))))
 (sPar [0, 1] (rCons (sVar 1) (rCons (sBin modD (sVar 0) (sVar 1)) rNil))))
 (sRet (sVar 0)))
noncomputable def F_divisor_of : Fn := runDef 2 c_divisor_of
noncomputable def c_places_of : M Fl :=
 (sSeq (sSet 2 (sLst sNil))
 (sSeq (sFor (sIter (sCallF (argN 1 F_pairs_of) (sCons (cap (sCB lenF (oCons (sVar 0) oNil))) sNil))) (gTupD 2 (gMore (gSet 3) (gMore (gSet 4) gNone)))
 (sDrop (sMut isLst appendM (sVar 2) (sCons (cap (sCallF (argN 2 F_place_of) (sCons (cap (sBin subD (sBin ixD (sVar 1) (sVar 3)) (sBin ixD (sVar 1) (sVar 4)))) (sCons (cap (sCallF (argN 2 F_divisor_of) (sCons (cap (sBin ixD (sVar 0) (sVar 3))) (sCons (cap (sBin ixD (sVar 0) (sVar 4))) sNil)))) sNil)))) sNil))))
 (sRet (sCB tupleF (oCons (sVar 2) oNil)))))
noncomputable def F_places_of : Fn := runDef 5 c_places_of
noncomputable def c_Tower_names : M Fl :=
 (sRet (sOne (fldF 5 "own_names") (sVar 0)))
noncomputable def F_Tower_names : Fn := runDef 1 c_Tower_names
noncomputable def c_Tower_full_round : M Fl :=
 (sRet (sOne (fldF 5 "own_round") (sVar 0)))
noncomputable def F_Tower_full_round : Fn := runDef 1 c_Tower_full_round
noncomputable def c_common_multiple : M Fl :=
 (sSeq (sSet 1 (sK (.int 1)))
 (sSeq (sFor (sIter (sVar 0)) (gSet 2)
 (sSeq (sPar [3, 4] (rCons (sVar 1) (rCons (sVar 2) rNil)))
 (sSeq (sWhile (sB (sBin gtD (sVar 4) (sK (.int 0))))
 (sPar [3, 4] (rCons (sVar 4) (rCons (sBin modD (sVar 3) (sVar 4)) rNil))))
 (sSet 1 (sBin mulD (sBin divD (sVar 1) (sVar 3)) (sVar 2))))))
 (sRet (sVar 1))))
noncomputable def F_common_multiple : Fn := runDef 5 c_common_multiple
noncomputable def c_meeting_counts : M Fl :=
 (sSeq (sSet 2 (sProp 5 F_Tower_periods (sVar 0)))
 (sSeq (sSet 3 (sDc [7, 8] (sRng zipA2 (sCons (cap (sCallF (argN 1 F_pairs_of) (sCons (cap (sCB lenF (oCons (sVar 2) oNil))) sNil))) (sCons (cap (sVar 1)) sNil))) (gTupD 2 (gMore (gSet 7) (gMore (gSet 8) gNone))) (ret true) (sVar 7) (sBin eqD (sBin modD (sVar 8) (sK (.int 2))) (sK (.int 0)))))
 (sSeq (sSet 4 (sLst (sCons (cap (sK (.int 0))) sNil)))
 (sSeq (sFor (sRng range2 (sCons (cap (sK (.int 1))) (sCons (cap (sBin shlD (sK (.int 1)) (sCB lenF (oCons (sVar 2) oNil)))) sNil))) (gSet 5)
 (sSeq (sSet 6 (sLc [9] (sRng range1 (sCons (cap (sCB lenF (oCons (sVar 2) oNil))) sNil)) (gSet 9) (sB (sBin eqD (sBin andD (sBin shrD (sVar 5) (sVar 9)) (sK (.int 1))) (sK (.int 1)))) (sVar 9)))
 (sIf (sB (sCB allF (oCons (sLc2 [10, 11] [11] (sIter (sVar 6)) (gSet 10) (ret true) (sIter (sVar 6)) (gSet 11) (sB (sBin ltD (sVar 10) (sVar 11))) (sBin getD2 (sVar 3) (sTup (sCons (cap (sVar 10)) (sCons (cap (sVar 11)) sNil))))) oNil)))
 (sDrop (sMut isLst appendM (sVar 4) (sCons (cap (sBin divD (sProp 5 F_Tower_full_round (sVar 0)) (sCallF (argN 1 F_common_multiple) (sCons (cap (sLc [9] (sIter (sVar 6)) (gSet 9) (ret true) (sBin ixD (sVar 2) (sVar 9)))) sNil)))) sNil)))
 (sDrop (sMut isLst appendM (sVar 4) (sCons (cap (sK (.int 0))) sNil))))))
 (sRet (sVar 4))))))
noncomputable def F_meeting_counts : Fn := runDef 12 c_meeting_counts
noncomputable def c_bit_count_of : M Fl :=
 (sSeq (sSet 1 (sK (.int 0)))
 (sSeq (sWhile (sB (sBin gtD (sVar 0) (sK (.int 0))))
 (sSeq (sSet 1 (sBin addD (sVar 1) (sBin andD (sVar 0) (sK (.int 1)))))
 (sSet 0 (sBin shrD (sVar 0) (sK (.int 1))))))
 (sRet (sVar 1))))
noncomputable def F_bit_count_of : Fn := runDef 2 c_bit_count_of
noncomputable def c_counts_of : M Fl :=
 (sSeq (sPar [2, 3] (rCons (sCallF (argN 2 F_meeting_counts) (sCons (cap (sVar 0)) (sCons (cap (sVar 1)) sNil))) (rCons (sProp 5 F_Tower_names (sVar 0)) rNil)))
 (sSeq (sSet 4 sDic0)
 (sSeq (sFor (sRng range2 (sCons (cap (sK (.int 1))) (sCons (cap (sCB lenF (oCons (sVar 2) oNil))) sNil))) (gSet 5)
 (sSeq (sSet 6 (sK (.int 0)))
 (sSeq (sFor (sRng range2 (sCons (cap (sK (.int 1))) (sCons (cap (sCB lenF (oCons (sVar 2) oNil))) sNil))) (gSet 7)
 (sIf (sB (sBin eqD (sBin andD (sVar 7) (sVar 5)) (sVar 5)))
 (sSet 6 (sBin addD (sVar 6) (sIfE (sB (sBin eqD (sBin modD (sCallF (argN 1 F_bit_count_of) (sCons (cap (sBin xorD (sVar 7) (sVar 5))) sNil)) (sK (.int 2))) (sK (.int 0)))) (sBin ixD (sVar 2) (sVar 7)) (sBin subD (sK (.int 0)) (sBin ixD (sVar 2) (sVar 7))))))
 sSkip))
 (sIf (sB (sBin gtD (sVar 6) (sK (.int 0))))
 (sSeq (sSet 8 (sStr1 joinF (sK (.str "")) (sLc [9, 10] (sRng enumA (sCons (cap (sVar 3)) sNil)) (gTupD 2 (gMore (gSet 9) (gMore (gSet 10) gNone))) (sB (sBin eqD (sBin andD (sBin shrD (sVar 5) (sVar 9)) (sK (.int 1))) (sK (.int 1)))) (sVar 10))))
 (sAsg (gDx (sVar 4) (sVar 8)) (sVar 6)))
 sSkip))))
 (sRet (sDc [8] (sIter (sCB sortedD2 (oCons (sVar 4) oNil))) (gSet 8) (ret true) (sVar 8) (sBin getD2 (sVar 4) (sVar 8)))))))
noncomputable def F_counts_of : Fn := runDef 11 c_counts_of
noncomputable def c_Song___init : M Fl :=
 (sSeq (sDrop (sCallF (argN 2 F_need_firsts) (sCons (cap (sVar 1)) (sCons (cap (sVar 2)) sNil))))
 (sSeq (sPutF 6 "own_tower" (sVar 0) (sVar 1))
 (sSeq (sPutF 6 "own_firsts" (sVar 0) (sVar 2))
 (sSeq (sPutF 6 "own_pattern" (sVar 0) (sCallF (argN 2 F_places_of) (sCons (cap (sProp 5 F_Tower_periods (sVar 1))) (sCons (cap (sVar 2)) sNil))))
 (sPutF 6 "own_chimes" (sVar 0) (sCB tupleF (oCons (sCB listD2 (oCons (sCallF (argN 2 F_counts_of) (sCons (cap (sVar 1)) (sCons (cap (sOne (fldF 6 "own_pattern") (sVar 0))) sNil))) oNil)) oNil)))))))
noncomputable def F_Song___init : Fm := runDefM 3 c_Song___init
noncomputable def c_is_name : M Fl :=
 (sRet (sAndV (sCB isiG (oCons (sVar 0) (oCons (sK (.ty "str")) oNil))) (sAndV (sBin eqD (sCB lenF (oCons (sVar 0) oNil)) (sK (.int 1))) (sBin inD (sVar 0) (sK (.str "abcdefghijklmnopqrstuvwxyz"))))))
noncomputable def F_is_name : Fn := runDef 1 c_is_name
noncomputable def c_is_bell : M Fl :=
 (sSeq (sIf (sOrT (sNotT (sB (sCB isiG (oCons (sVar 0) (oCons (sK (.ty "tuple")) oNil))))) (sOrT (sB (sBin neD (sCB lenF (oCons (sVar 0) oNil)) (sK (.int 2)))) (sNotT (sB (sCallF (argN 1 F_is_name) (sCons (cap (sBin ixD (sVar 0) (sK (.int 0)))) sNil))))))
 (sRet (sK (.bl false)))
 sSkip)
 (sRet (sCallF (argN 3 F_is_integer) (sCons (cap (sBin ixD (sVar 0) (sK (.int 1)))) (sCons (cap (sK (.int 1))) (sCons (cap (sK (.int 30))) sNil))))))
noncomputable def F_is_bell : Fn := runDef 1 c_is_bell
noncomputable def c_tower_faults : M Fl :=
 (sSeq (sIf (sOrT (sNotT (sB (sCB isiG (oCons (sVar 0) (oCons (sK (.ty "tuple")) oNil))))) (sNotT (sB (sChain leD leD (sK (.int 1)) (sCB lenF (oCons (sVar 0) oNil)) (sK (.int 5))))))
 (sRet (sLst (sCons (cap (sK .non)) sNil)))
 sSkip)
 (sSeq (sSet 1 (sK (.str "")))
 (sSeq (sFor (sRng enumA (sCons (cap (sVar 0)) sNil)) (gTupD 2 (gMore (gSet 2) (gMore (gSet 3) gNone)))
 (sSeq (sIf (sOrT (sNotT (sB (sCallF (argN 1 F_is_bell) (sCons (cap (sVar 3)) sNil)))) (sB (sBin leD (sBin ixD (sVar 3) (sK (.int 0))) (sVar 1))))
 (sRet (sLst (sCons (cap (sVar 2)) sNil)))
 sSkip)
 (sSet 1 (sBin ixD (sVar 3) (sK (.int 0))))))
 (sRet (sLst sNil)))))
noncomputable def F_tower_faults : Fn := runDef 4 c_tower_faults
noncomputable def c_Tower___init : M Fl :=
 (sSeq (sFor (sIter (sCallF (argN 1 F_tower_faults) (sCons (cap (sVar 1)) sNil))) (gSet 2)
 (sRaise 1 ["index"] (sCons (cap (sVar 2)) sNil)))
 (sSeq (sPutF 5 "own_bells" (sVar 0) (sVar 1))
 (sSeq (sPutF 5 "own_names" (sVar 0) (sStr1 joinF (sK (.str "")) (sLc [3, 4] (sIter (sVar 1)) (gTupD 2 (gMore (gSet 3) (gMore (gSet 4) gNone))) (ret true) (sVar 3))))
 (sSeq (sPutF 5 "own_periods" (sVar 0) (sCB tupleF (oCons (sLc [3, 4] (sIter (sVar 1)) (gTupD 2 (gMore (gSet 3) (gMore (gSet 4) gNone))) (ret true) (sVar 4)) oNil)))
 (sPutF 5 "own_round" (sVar 0) (sCallF (argN 1 F_common_multiple) (sCons (cap (sOne (fldF 5 "own_periods") (sVar 0))) sNil)))))))
noncomputable def F_Tower___init : Fm := runDefM 5 c_Tower___init
noncomputable def c_law_sets : M Fl :=
 (sSeq (sSet 1 (sLst (sCons (cap (sK (.str ""))) sNil)))
 (sSeq (sFor (sIter (sVar 0)) (gTupD 2 (gMore (gSet 2) (gMore (gSet 3) gNone)))
 (sSet 1 (sBin addD (sVar 1) (sLc [4] (sIter (sVar 1)) (gSet 4) (ret true) (sBin addD (sVar 4) (sVar 2))))))
 (sRet (sCB sortedF (oCons (sSli (sVar 1) (sPart (sK (.int 1))) (ret none)) oNil)))))
noncomputable def F_law_sets : Fn := runDef 5 c_law_sets
noncomputable def c_Song_pattern : M Fl :=
 (sRet (sOne (fldF 6 "own_pattern") (sVar 0)))
noncomputable def F_Song_pattern : Fn := runDef 1 c_Song_pattern
noncomputable def c_Tower___len : M Fl :=
 (sRet (sCB lenF (oCons (sOne (fldF 5 "own_bells") (sVar 0)) oNil)))
noncomputable def F_Tower___len : Fn := runDef 1 c_Tower___len
noncomputable def c_Song_tower : M Fl :=
 (sRet (sOne (fldF 6 "own_tower") (sVar 0)))
noncomputable def F_Song_tower : Fn := runDef 1 c_Song_tower
noncomputable def c_do_meet : M Fl :=
 (sSeq (sSet 2 (sDc [3, 4] (sRng zipA2 (sCons (cap (sCallF (argN 1 F_pairs_of) (sCons (cap (sLenO 5 F_Tower___len (sCons (cap (sProp 6 F_Song_tower (sVar 0))) sNil))) sNil))) (sCons (cap (sProp 6 F_Song_pattern (sVar 0))) sNil))) (gTupD 2 (gMore (gSet 3) (gMore (gSet 4) gNone))) (ret true) (sVar 3) (sBin eqD (sBin modD (sVar 4) (sK (.int 2))) (sK (.int 0)))))
 (sRet (sCB allF (oCons (sLc2 [5, 6] [6] (sIter (sVar 1)) (gSet 5) (ret true) (sIter (sVar 1)) (gSet 6) (sB (sBin ltD (sVar 5) (sVar 6))) (sBin getD2 (sVar 2) (sTup (sCons (cap (sVar 5)) (sCons (cap (sVar 6)) sNil))))) oNil))))
noncomputable def F_do_meet : Fn := runDef 7 c_do_meet
noncomputable def c_is_chime : M Fl :=
 (sSeq (sIf (sOrT (sNotT (sB (sCB isiG (oCons (sVar 1) (oCons (sK (.ty "str")) oNil))))) (sOrT (sB (sBin eqD (sVar 1) (sK (.str "")))) (sB (sBin gtD (sCB lenF (oCons (sVar 1) oNil)) (sCB lenF (oCons (sVar 0) oNil))))))
 (sRet (sK (.bl false)))
 sSkip)
 (sRet (sBin eqD (sStr1 joinF (sK (.str "")) (sLc [2] (sIter (sVar 0)) (gSet 2) (sB (sBin inD (sVar 2) (sVar 1))) (sVar 2))) (sVar 1))))
noncomputable def F_is_chime : Fn := runDef 3 c_is_chime
noncomputable def c_members_of : M Fl :=
 (sSeq (sIf (sNotT (sB (sCallF (argN 2 F_is_chime) (sCons (cap (sProp 5 F_Tower_names (sProp 6 F_Song_tower (sVar 0)))) (sCons (cap (sVar 1)) sNil)))))
 (sRaise 2 ["value"] (sCons (cap (sVar 1)) sNil))
 sSkip)
 (sRet (sLc [2, 3] (sRng enumA (sCons (cap (sProp 5 F_Tower_names (sProp 6 F_Song_tower (sVar 0)))) sNil)) (gTupD 2 (gMore (gSet 2) (gMore (gSet 3) gNone))) (sB (sBin inD (sVar 3) (sVar 1))) (sVar 2))))
noncomputable def F_members_of : Fn := runDef 4 c_members_of
noncomputable def c_meets : M Fl :=
 (sRet (sCallF (argN 2 F_do_meet) (sCons (cap (sVar 0)) (sCons (cap (sCallF (argN 2 F_members_of) (sCons (cap (sVar 0)) (sCons (cap (sVar 1)) sNil)))) sNil))))
noncomputable def F_meets : Fn := runDef 2 c_meets
noncomputable def c_law_small_right : M Fl :=
 (sSeq (sPar [2, 3] (rCons (sCallF (makeF 6 3 F_Song___init) (sCons (cap (sCallF (makeF 5 2 F_Tower___init) (sCons (cap (sVar 0)) sNil))) (sCons (cap (sVar 1)) sNil))) (rCons (sCallF (argN 2 F_law_tally) (sCons (cap (sVar 0)) (sCons (cap (sVar 1)) sNil))) rNil)))
 (sSeq (sFor (sIter (sCallF (argN 1 F_law_sets) (sCons (cap (sVar 0)) sNil))) (gSet 4)
 (sSeq (sSet 5 (sBin neD (sLc [6] (sKeys 3) (gSet 6) (sB (sBin eqD (sLc [7] (sIter (sVar 4)) (gSet 7) (sB (sBin notInD (sVar 7) (sVar 6))) (sVar 7)) (sLst sNil))) (sVar 6)) (sLst sNil)))
 (sIf (sB (sBin neD (sCB reprF (oCons (sCallF (argN 2 F_meets) (sCons (cap (sVar 2)) (sCons (cap (sVar 4)) sNil))) oNil)) (sCB reprF (oCons (sVar 5) oNil))))
 (sRet (sK (.bl false)))
 sSkip)))
 (sRet (sK (.bl true)))))
noncomputable def F_law_small_right : Fn := runDef 8 c_law_small_right
noncomputable def c_law_row : M Fl :=
 (sRet (sCB tupleF (oCons (sLc [2, 3] (sIter (sVar 1)) (gTupD 2 (gMore (gSet 2) (gMore (gSet 3) gNone))) (ret true) (sCallM (argM 2 F_law_next) (sVar 0) (sCons (cap (sVar 3)) sNil))) oNil)))
noncomputable def F_law_row : Fm := runDefM 4 c_law_row
noncomputable def c_law_great_right : M Fl :=
 (sSeq (sPar [2, 3] (rCons (sCallF (makeF 6 3 F_Song___init) (sCons (cap (sCallF (makeF 5 2 F_Tower___init) (sCons (cap (sVar 0)) sNil))) (sCons (cap (sVar 1)) sNil))) (rCons (sLst sNil) rNil)))
 (sSeq (sFor (sRng range1 (sCons (cap (sCB lenF (oCons (sVar 0) oNil))) sNil)) (gSet 4)
 (sFor (sRng range1 (sCons (cap (sVar 4)) sNil)) (gSet 5)
 (sIf (sB (sBin neD (sBin modD (sBin subD (sBin ixD (sVar 1) (sVar 5)) (sBin ixD (sVar 1) (sVar 4))) (sCallF (argN 2 F_law_divisor) (sCons (cap (sBin ixD (sBin ixD (sVar 0) (sVar 5)) (sK (.int 1)))) (sCons (cap (sBin ixD (sBin ixD (sVar 0) (sVar 4)) (sK (.int 1)))) sNil)))) (sK (.int 0))))
 (sDrop (sMut isLst appendM (sVar 3) (sCons (cap (sTup (sCons (cap (sBin ixD (sBin ixD (sVar 0) (sVar 5)) (sK (.int 0)))) (sCons (cap (sBin ixD (sBin ixD (sVar 0) (sVar 4)) (sK (.int 0)))) sNil)))) sNil)))
 sSkip)))
 (sSeq (sFor (sIter (sCallF (argN 1 F_law_sets) (sCons (cap (sVar 0)) sNil))) (gSet 6)
 (sSeq (sSet 7 (sBin eqD (sLc [8] (sIter (sVar 3)) (gSet 8) (sAndT (sB (sBin inD (sBin ixD (sVar 8) (sK (.int 0))) (sVar 6))) (sB (sBin inD (sBin ixD (sVar 8) (sK (.int 1))) (sVar 6)))) (sVar 8)) (sLst sNil)))
 (sIf (sB (sBin neD (sCB reprF (oCons (sCallF (argN 2 F_meets) (sCons (cap (sVar 2)) (sCons (cap (sVar 6)) sNil))) oNil)) (sCB reprF (oCons (sVar 7) oNil))))
 (sRet (sK (.bl false)))
 sSkip)))
 (sRet (sK (.bl true))))))
noncomputable def F_law_great_right : Fn := runDef 9 c_law_great_right
noncomputable def c_law : M Fl :=
 (sSeq (sFor (sRng range1 (sCons (cap (sCB maxF (oCons (sK (.int 1)) (oCons (sCB minF (oCons (sK (.int 3)) (oCons (sCB lenF (oCons (sVar 0) oNil)) oNil))) oNil)))) sNil)) (gSet 1)
 (sSeq (sSet 2 (sCallF (argN 2 F_law_source) (sCons (cap (sVar 0)) (sCons (cap (sVar 1)) sNil))))
 (sSeq (sPar [3, 4] (rCons (sCallM (argM 2 F_law_bells) (sVar 2) (sCons (cap (sK (.int 80))) sNil)) (rCons (sCallM (argM 1 F_law_great_bells) (sVar 2) sNil) rNil)))
 (sIf (sOrT (sNotT (sB (sCallF (argN 2 F_law_small_right) (sCons (cap (sVar 3)) (sCons (cap (sCallM (argM 2 F_law_row) (sVar 2) (sCons (cap (sVar 3)) sNil))) sNil))))) (sNotT (sB (sCallF (argN 2 F_law_great_right) (sCons (cap (sVar 4)) (sCons (cap (sCallM (argM 2 F_law_row) (sVar 2) (sCons (cap (sVar 4)) sNil))) sNil))))))
 (sRet (sK (.bl false)))
 sSkip))))
 (sRet (sK (.bl true))))
noncomputable def F_law : Fn := runDef 5 c_law
end G

namespace Law
open PySem DL G
/-! ### the source of numbers -/
def Src (m : Nat) (s : D) : Prop := ∃ a b c : Int, s = .lst [.int a, .int b, .int c] ∧ 0 ≤ b ∧ b ≤ m
theorem next_hi {a b c n : Int} (hc : 0 < c) (hn : 0 < n) (hn2 : n < 18446744073709551616) : F_law_next (.lst [.int a, .int b, .int c]) [.int n] = some (.ok (.dat (.int (c % n))), .lst [.int a, .int b, .int (c / n)]) := by
  have h2 : n < 18446744073709551616 := by omega
  simp [F_law_next, runDefM_ap, c_law_next, st0, bnd_ap, hc, hn, h2]
theorem prime_at {b : Int} (hb : 0 ≤ b) : ∃ p : Int, 0 < p ∧ p < 2147483648 ∧ L2.atI [D.int 2147483647, D.int 2147483629, D.int 2147483587, D.int 2147483579, D.int 2147483563, D.int 2147483549, D.int 2147483543, D.int 2147483497, D.int 2147483489, D.int 2147483477, D.int 2147483423] (b % 11) = some (.int p) := by
  have : b % 11 = 0 ∨ b % 11 = 1 ∨ b % 11 = 2 ∨ b % 11 = 3 ∨ b % 11 = 4 ∨ b % 11 = 5 ∨ b % 11 = 6 ∨ b % 11 = 7 ∨ b % 11 = 8 ∨ b % 11 = 9 ∨ b % 11 = 10 := by omega
  rcases this with h | h | h | h | h | h | h | h | h | h | h <;> rw [h] <;> exact ⟨_, by decide, by decide, rfl⟩
theorem next_lo {a b c n : Int} (hc : ¬ 0 < c) (hn : 0 < n) (hn2 : n < 18446744073709551616) (hb : 0 ≤ b) (hb2 : b < 1000000000000) : ∃ r, 0 ≤ r ∧ r < n ∧ F_law_next (.lst [.int a, .int b, .int c]) [.int n] = some (.ok (.dat (.int r)), .lst [.int a, .int (b + 1), .int c]) := by
  have h2 : n < 18446744073709551616 := by omega
  obtain ⟨p, p1, p2, hp⟩ := prime_at (b := b + 1) (by omega)
  have h3 : (a % p + 7919 * (b + 1) + 1).natAbs < 18446744073709551616 := by
    have := Int.emod_nonneg a (by omega : p ≠ 0)
    have := Int.emod_lt_of_pos a p1
    omega
  refine ⟨(a % p + 7919 * (b + 1) + 1) ^ 5 % p / 13 % n, Int.emod_nonneg _ (by omega), Int.emod_lt_of_pos _ hn, ?_⟩
  simp [F_law_next, runDefM_ap, c_law_next, st0, bnd_ap, hc, hn, h2, hp, mkLst_ok, p1, h3]
theorem next_ok {m : Nat} {s : D} {n : Int} (h : Src m s) (hm : m < 100000000000) (hn : 0 < n) (hn2 : n < 18446744073709551616) : ∃ r s', F_law_next s [.int n] = some (.ok (.dat (.int r)), s') ∧ 0 ≤ r ∧ r < n ∧ Src (m + 1) s' := by
  obtain ⟨a, b, c, rfl, h1, h2⟩ := h
  by_cases hc : 0 < c
  · exact ⟨_, _, next_hi hc hn hn2, Int.emod_nonneg _ (by omega), Int.emod_lt_of_pos _ hn, _, _, _, rfl, h1, by omega⟩
  · obtain ⟨r, r1, r2, e⟩ := next_lo (a := a) hc hn hn2 h1 (by omega)
    exact ⟨r, _, e, r1, r2, _, _, _, rfl, by omega, by omega⟩
theorem source_ok (ns : List Int) (k : Nat) : ∃ s, Src (3 * k) s ∧ F_law_source [.lst (ns.map .int), .int k] = some (.ok (.own s)) := by
  have ok : ∀ d ∈ ns.map D.int, okD 59 d = true := fun d hd => by
    obtain ⟨i, _, rfl⟩ := List.mem_map.mp hd
    rfl
  cases ns with
  | nil => exact ⟨_, ⟨1, 3 * k, 0, rfl, by omega, by omega⟩, by simp [F_law_source, runDef_ap, c_law_source, st0, bnd_ap, neD_nil, mkLst_ok]⟩
  | cons n0 nr =>
    have hl : 0 < ((n0 :: nr).map D.int).length := by simp
    have hi : ∃ cell, L2.atI ((n0 :: nr).map D.int) ((k : Int) % (((n0 :: nr).map D.int).length : Nat)) = some (.int cell) := by
      refine ⟨(n0 :: nr)[k % (n0 :: nr).length]'(Nat.mod_lt _ (by simp)), ?_⟩
      rw [← Int.natCast_emod, atI_nat, List.getElem?_map, List.length_map, List.getElem?_eq_getElem (Nat.mod_lt _ (by simp))]
      rfl
    obtain ⟨cell, hi⟩ := hi
    have hne : ((n0 :: nr).map D.int).isEmpty = false := rfl
    generalize (n0 :: nr).map D.int = ds at *
    by_cases h : (1000000000000000000 : Int) ≤ cell
    · exact ⟨_, ⟨cell, 3 * k, cell / 1000000000000000000, rfl, by omega, by omega⟩, by simp [F_law_source, runDef_ap, c_law_source, st0, bnd_ap, neD_nil ok, hne, hl, hi, h, mkLst_ok]⟩
    · exact ⟨_, ⟨cell, 3 * k, 0, rfl, by omega, by omega⟩, by simp [F_law_source, runDef_ap, c_law_source, st0, bnd_ap, neD_nil ok, hne, hl, hi, h, mkLst_ok]⟩
theorem perm_erase {α : Type} : ∀ {xs : List α} {k : Nat} {d : α}, xs[k]? = some d → xs.Perm (d :: xs.eraseIdx k)
  | [], _, _, h => by simp at h
  | x :: xs, 0, d, h => by simp at h; subst h; exact .refl _
  | x :: xs, k + 1, d, h => by
    have h' : xs[k]? = some d := by simpa using h
    exact ((perm_erase h').cons x).trans (.swap _ _ _)
/-! ### a random order -/
abbrev mixC : M Bool := sB (sBin neD (sVar 2) (sLst sNil))
noncomputable abbrev mixB : M Fl := sDrop (sMut isLst appendM (sVar 3) (sCons (cap (sMut isLst popAtM (sVar 2) (sCons (cap (sCallM (argM 2 F_law_next) (sVar 0) (sCons (cap (sCB lenF (oCons (sVar 2) oNil))) sNil))) sNil))) sNil))
theorem mixed_loop : ∀ (k : Nat) (rest found : List D) (s it : D) (m : Nat), rest.length = k → Src m s → m + k < 100000000000 → k ≤ 1000 → found.length + k ≤ 2000 → (∀ d ∈ rest, okD 59 d = true) →
    ∃ s' out, Src (m + k) s' ∧ (found ++ rest).Perm out ∧ sWhile mixC mixB [.own s, .dat it, .own (.lst rest), .own (.lst found)] = some (.ok .nx, [.own s', .dat it, .own (.lst []), .own (.lst out)])
  | 0, rest, found, s, it, m, hl, hs, hm, hk, hf, ok => by
    have : rest = [] := List.length_eq_zero_iff.mp hl
    subst this
    refine ⟨s, found, hs, by simp, sWhile_stop ?_⟩
    simp [bnd_ap, neD_nil]
  | k + 1, rest, found, s, it, m, hl, hs, hm, hk, hf, ok => by
    obtain ⟨r, s1, e1, r0, r1, hs1⟩ := next_ok (n := (rest.length : Int)) hs (by omega) (by omega) (by omega)
    obtain ⟨d, hd, e2⟩ := popAt_ok (xs := rest) r0 r1 (by omega)
    have hr : r.toNat < rest.length := by omega
    have hne : rest.isEmpty = false := by
      cases rest with
      | nil => simp at hl
      | cons => rfl
    obtain ⟨s', out, g1, g2, g3⟩ := mixed_loop k (rest.eraseIdx r.toNat) (found ++ [d]) s1 it (m + 1) (by rw [List.length_eraseIdx_of_lt hr]; omega) hs1 (by omega) (by omega) (by simp; omega)
      (fun x hx => ok x (List.mem_of_mem_eraseIdx hx))
    refine ⟨s', out, by rw [show m + (k + 1) = m + 1 + k by omega]; exact g1, ?_, ?_⟩
    · refine List.Perm.trans ?_ g2
      rw [List.append_assoc]
      exact List.Perm.append_left _ (perm_erase hd)
    · rw [← g3]
      refine sWhile_step (Γ1 := [.own s, .dat it, .own (.lst rest), .own (.lst found)]) (f := .nx) ?_ ?_ (.inl rfl)
      · simp [bnd_ap, neD_nil ok, hne]
      · have hlen : found.length < 16777216 := by omega
        simp [bnd_ap, e1, e2, hlen]
theorem mixed_ok {items : List D} {s : D} {m : Nat} (hs : Src m s) (hm : m + items.length < 100000000000) (hk : items.length ≤ 1000) (ok : ∀ d ∈ items, okD 59 d = true) :
    ∃ s' out, Src (m + items.length) s' ∧ items.Perm out ∧ F_law_mixed s [.lst items] = some (.ok (.own (.lst out)), s') := by
  obtain ⟨s', out, h1, h2, h3⟩ := mixed_loop items.length items [] s (.lst items) m rfl hs hm hk (by simp; omega) ok
  refine ⟨s', out, h1, h2, ?_⟩
  simp [F_law_mixed, runDefM_ap, c_law_mixed, st0, bnd_ap]
  rw [h3]
  simp [bnd_ap]
end Law

namespace Law
open PySem DL G
/-! ### random bells -/
def letters : List Nat := [97, 98, 99, 100, 109, 122]
theorem letters_are : strD "abcdmz" = letters.map L1 := by
  show (("abcdmz" : Str).cps.toList.map fun c => D.str ⟨#[c]⟩) = _
  rw [show ("abcdmz" : Str).cps.toList = letters by decide +kernel]
  rfl
theorem listF_letters : listF [.str "abcdmz"] = some (.own (.lst (letters.map L1))) := by
  show (if ("abcdmz" : Str).length ≤ big then some (Rf.own (.lst (strD "abcdmz"))) else none) = _
  rw [if_pos (by decide +kernel), letters_are]
def bellD (q : Nat × Int) : D := .tup [L1 q.1, .int q.2]
structure Bells (lo hi : Nat) (per : Int) (l : List (Nat × Int)) : Prop where
  lo : lo ≤ l.length
  hi : l.length ≤ hi
  asc : (l.map (·.1)).Pairwise (· < ·)
  abc : ∀ q ∈ l, 97 ≤ q.1 ∧ q.1 ≤ 122
  per : ∀ q ∈ l, 1 ≤ q.2 ∧ q.2 ≤ per
/-- some letters in a random order, so many, sorted -/
theorem names_ok {s : D} {m : Nat} (hs : Src m s) (hm : m < 10000000000) : ∃ s' cs, Src (m + 6) s' ∧ letters.Perm cs ∧ F_law_mixed s [.lst (letters.map L1)] = some (.ok (.own (.lst (cs.map L1))), s') := by
  obtain ⟨s', out, h1, h2, h3⟩ := mixed_ok (items := letters.map L1) hs (by rw [List.length_map]; show m + 6 < _; omega) (by rw [List.length_map]; decide) (fun d hd => by
    obtain ⟨c, _, rfl⟩ := List.mem_map.mp hd
    exact okD_L1 c)
  obtain ⟨cs, rfl, h4⟩ := perm_map unL1_L1 h2
  exact ⟨s', cs, h1, h4, h3⟩
/-- what sorted gives of the first n -/
def firstN (cs : List Nat) (n : Nat) : List Nat := (cs.take n).mergeSort fun a b => decide (a ≤ b)
theorem firstN_ok {cs : List Nat} (h : letters.Perm cs) {n : Nat} (hn : n ≤ 6) : (firstN cs n).length = n ∧ (firstN cs n).Pairwise (· < ·) ∧ ∀ c ∈ firstN cs n, c ∈ letters := by
  have hl : cs.length = 6 := h.length_eq.symm
  have hp : (firstN cs n).Perm (cs.take n) := List.mergeSort_perm _ _
  have nd : cs.Nodup := h.nodup (by decide)
  refine ⟨by rw [hp.length_eq, List.length_take]; omega, ms_asc ((List.take_sublist n cs).nodup nd), fun c hc => ?_⟩
  exact h.mem_iff.mpr (List.mem_of_mem_take (hp.mem_iff.mp hc))
noncomputable abbrev gbE : M Rf := sTup (sCons (cap (sVar 2)) (sCons (cap (sBin addD (sK (.int 1)) (sCallM (argM 2 F_law_next) (sVar 0) (sCons (cap (sK (.int 30))) sNil)))) sNil))
theorem great_loop : ∀ (cs : List Nat) (acc : List D) (s nd : D) (m : Nat), Src m s → m + cs.length < 100000000000 → cs.length ≤ 100 → acc.length + cs.length ≤ 1000 → ∃ s' ps, ps.length = cs.length ∧ (∀ p ∈ ps, (1 : Int) ≤ p ∧ p ≤ 30) ∧ Src (m + cs.length) s' ∧
    loopL (gSet 2) (DL.ret true) (cap gbE) [2] (cs.map L1) acc [.own s, .dat nd, .un] = some (.ok (acc ++ (cs.zip ps).map bellD), [.own s', .dat nd, .un])
  | [], acc, s, nd, m, hs, hm, hc, ha => ⟨s, [], rfl, by simp, hs, by simp [loopL]⟩
  | c :: cs, acc, s, nd, m, hs, hm, hc, ha => by
    simp only [List.length_cons] at hm hc ha
    obtain ⟨r, s1, e1, r0, r1, hs1⟩ := next_ok (n := 30) hs (by omega) (by omega) (by omega)
    obtain ⟨s', ps, h1, h2, h3, h4⟩ := great_loop cs (acc ++ [bellD (c, 1 + r)]) s1 nd (m + 1) hs1 (by omega) (by omega) (by rw [List.length_append, List.length_singleton]; omega)
    refine ⟨s', (1 + r) :: ps, by simp [h1], ?_, by rw [List.length_cons, show m + (cs.length + 1) = m + 1 + cs.length by omega]; exact h3, ?_⟩
    · intro p hp
      rcases List.mem_cons.mp hp with rfl | hp
      · omega
      · exact h2 p hp
    · have hacc : acc.length < 16777216 := by omega
      have e : acc ++ (((c :: cs).zip ((1 + r) :: ps)).map bellD) = (acc ++ [bellD (c, 1 + r)]) ++ (cs.zip ps).map bellD := by simp
      rw [e, ← h4]
      simp [loopL, bnd_ap, e1, mkTup_ok, hacc, wipeG, bellD]
theorem srt (cs : List Nat) (n : Nat) : sortedF [.lst ((cs.map L1).take n)] = some (.own (.lst ((firstN cs n).map L1))) := by
  rw [← List.map_take, sorted_L1]; rfl
theorem zip_fst_eq {α β : Type} : ∀ {as : List α} {bs : List β}, bs.length = as.length → (as.zip bs).map (·.1) = as
  | [], _, _ => rfl
  | a :: as, b :: bs, h => by simp only [List.zip_cons_cons, List.map_cons]; rw [zip_fst_eq (by simpa using h)]
theorem bells_of {cs : List Nat} {ps : List Int} {lo hi : Nat} {per : Int} (hl : ps.length = cs.length) (h1 : lo ≤ cs.length) (h2 : cs.length ≤ hi) (asc : cs.Pairwise (· < ·)) (abc : ∀ c ∈ cs, c ∈ letters) (hp : ∀ p ∈ ps, (1 : Int) ≤ p ∧ p ≤ per) : Bells lo hi per (cs.zip ps) where
  lo := by rw [List.length_zip]; omega
  hi := by rw [List.length_zip]; omega
  asc := by rw [zip_fst_eq hl]; exact asc
  abc := fun q hq => (by decide : ∀ c ∈ letters, 97 ≤ c ∧ c ≤ 122) _ (abc _ (List.of_mem_zip hq).1)
  per := fun q hq => hp _ (List.of_mem_zip hq).2
theorem great_ok {s : D} {m : Nat} (hs : Src m s) (hm : m < 1000000000) : ∃ s' l, Bells 4 5 30 l ∧ Src (m + 12) s' ∧ F_law_great_bells s [] = some (.ok (.dat (.tup (l.map bellD))), s') := by
  obtain ⟨s1, cs, hs1, hp, e1⟩ := names_ok hs (by omega)
  obtain ⟨r, s2, e2, r0, r1, hs2⟩ := next_ok (n := 2) hs1 (by omega) (by omega) (by omega)
  obtain ⟨f1, f2, f3⟩ := firstN_ok hp (n := (4 + r).toNat) (by omega)
  have c1 := cut_to (cs.map L1) (v := 4 + r) (by omega)
  have c2 := srt cs (4 + r).toNat
  generalize firstN cs (4 + r).toNat = ns at *
  obtain ⟨s', ps, h1, h2, h3, h4⟩ := great_loop ns [] s2 (.lst (ns.map L1)) (m + 6 + 1) hs2 (by omega) (by omega) (by simp; omega)
  obtain ⟨a, b, c, rfl, hb, hb2⟩ := h3
  refine ⟨_, ns.zip ps, bells_of h1 (by omega) (by omega) f2 f3 h2, ⟨a, b, c, rfl, hb, by omega⟩, ?_⟩
  simp [F_law_great_bells, runDefM_ap, c_law_great_bells, st0, bnd_ap, listF_letters, e1, e2, c1, c2]
  rw [h4]
  simp
abbrev bC : M (List D) := sIter (sVar 2)
noncomputable abbrev bB : M Fl := (sSeq (sSet 5 (sBin addD (sK (.int 1)) (sCallM (argM 2 F_law_next) (sVar 0) (sCons (cap (sCB minF (oCons (sVar 3) (oCons (sK (.int 12)) oNil)))) sNil))))
 (sSeq (sDrop (sMut isLst appendM (sVar 2) (sCons (cap (sTup (sCons (cap (sVar 4)) (sCons (cap (sVar 5)) sNil)))) sNil)))
 (sSet 3 (sBin divD (sVar 3) (sVar 5)))))
theorem bells_loop : ∀ (cs : List Nat) (fl : List D) (s top : D) (room : Int) (x y : Sl) (m : Nat), Src m s → m + cs.length < 100000000000 → cs.length ≤ 100 → fl.length + cs.length ≤ 1000 → 1 ≤ room → room ≤ 100000 → (x = .un ∨ ∃ d, x = .dat d) → (y = .un ∨ ∃ d, y = .dat d) →
    ∃ s' ps room' x' y', ps.length = cs.length ∧ (∀ p ∈ ps, (1 : Int) ≤ p ∧ p ≤ 12) ∧ Src (m + cs.length) s' ∧
    loopF (gSet 4) bB (cs.map L1) [.own s, .dat top, .own (.lst fl), .dat (.int room), x, y] = some (.ok .nx, [.own s', .dat top, .own (.lst (fl ++ (cs.zip ps).map bellD)), .dat (.int room'), x', y'])
  | [], fl, s, top, room, x, y, m, hs, hm, hc, ha, h1, h2, hx, hy => ⟨s, [], room, x, y, rfl, by simp, hs, by simp⟩
  | c :: cs, fl, s, top, room, x, y, m, hs, hm, hc, ha, h1, h2, hx, hy => by
    simp only [List.length_cons] at hm hc ha
    obtain ⟨r, s1, e1, r0, r1, hs1⟩ := next_ok (n := if (12 : Int) < room then 12 else room) hs (by omega) (by split <;> omega) (by split <;> omega)
    have hr : 1 + r ≤ room ∧ r < 12 := by split at r1 <;> omega
    have hroom : 1 ≤ room / (1 + r) := by
      have := Int.le_ediv_of_mul_le (c := 1 + r) (a := 1) (b := room) (by omega) (by omega)
      exact this
    have hroom2 : room / (1 + r) ≤ 100000 := Int.le_trans (Int.ediv_le_self _ (by omega)) h2
    obtain ⟨s', ps, room', x', y', g1, g2, g3, g4⟩ := bells_loop cs (fl ++ [bellD (c, 1 + r)]) s1 top (room / (1 + r)) (.dat (L1 c)) (.dat (.int (1 + r))) (m + 1) hs1 (by omega) (by omega) (by rw [List.length_append, List.length_singleton]; omega) hroom hroom2 (.inr ⟨_, rfl⟩) (.inr ⟨_, rfl⟩)
    refine ⟨s', (1 + r) :: ps, room', x', y', by simp [g1], ?_, by rw [List.length_cons, show m + (cs.length + 1) = m + 1 + cs.length by omega]; exact g3, ?_⟩
    · intro p hp
      rcases List.mem_cons.mp hp with rfl | hp
      · omega
      · exact g2 p hp
    · have hacc : fl.length < 16777216 := by omega
      have p0 : 0 < 1 + r := by omega
      have p1 : 1 + r < 18446744073709551616 := by omega
      have e : fl ++ (((c :: cs).zip ((1 + r) :: ps)).map bellD) = (fl ++ [bellD (c, 1 + r)]) ++ (cs.zip ps).map bellD := by simp
      rw [e, ← g4, List.map_cons, loopF_cons]
      simp [bnd_ap, e1, mkTup_ok, hacc, bellD, p0, p1]
theorem law_bells_ok {s : D} {m : Nat} {top : Int} (hs : Src m s) (hm : m < 1000000000) (ht : 1 ≤ top) (ht2 : top ≤ 100000) : ∃ s' l, Bells 1 4 12 l ∧ Src (m + 12) s' ∧ F_law_bells s [.int top] = some (.ok (.dat (.tup (l.map bellD))), s') := by
  obtain ⟨s1, cs, hs1, hp, e1⟩ := names_ok hs (by omega)
  obtain ⟨r, s2, e2, r0, r1, hs2⟩ := next_ok (n := 4) hs1 (by omega) (by omega) (by omega)
  obtain ⟨f1, f2, f3⟩ := firstN_ok hp (n := (1 + r).toNat) (by omega)
  have c1 := cut_to (cs.map L1) (v := 1 + r) (by omega)
  have c2 := srt cs (1 + r).toNat
  generalize firstN cs (1 + r).toNat = ns at *
  obtain ⟨s', ps, room', x', y', h1, h2, h3, h4⟩ := bells_loop ns [] s2 (.int top) top .un .un (m + 6 + 1) hs2 (by omega) (by omega) (by simp; omega) ht ht2 (.inl rfl) (.inl rfl)
  obtain ⟨a, b, c, rfl, hb, hb2⟩ := h3
  refine ⟨_, ns.zip ps, bells_of h1 (by omega) (by omega) f2 f3 h2, ⟨a, b, c, rfl, hb, by omega⟩, ?_⟩
  simp [F_law_bells, runDefM_ap, c_law_bells, st0, bnd_ap, listF_letters, e1, e2, c1, c2]
  rw [h4]
  simp [bnd_ap]
end Law

namespace Law
open PySem DL G
/-! ### the checks of values -/
/-- values of the kinds that the laws pass -/
def pk : D → Bool
  | .non | .bl _ | .int _ | .lst _ | .tup _ | .dic _ _ => true
  | .str x => decide (x.length ≤ 16777216)
  | _ => false
def codes : D → List Nat
  | .str x => x.cps.toList
  | _ => []
def isNm : D → Bool
  | .str x => match x.cps.toList with
    | [c] => decide (97 ≤ c ∧ c ≤ 122)
    | _ => false
  | _ => false
theorem len_list (x : Str) : x.length = x.cps.toList.length := by
  show x.cps.size = _
  rw [Array.length_toList]
theorem abc_are : ("abcdefghijklmnopqrstuvwxyz" : Str).cps.toList = (List.range 26).map (97 + ·) := by decide +kernel
theorem mem_abc (c : Nat) : decide (c ∈ ("abcdefghijklmnopqrstuvwxyz" : Str).cps.toList) = decide (97 ≤ c ∧ c ≤ 122) := by
  rw [abc_are]
  refine decide_eq_decide.mpr ?_
  simp only [List.mem_map, List.mem_range]
  constructor
  · rintro ⟨a, h, rfl⟩; omega
  · intro h; exact ⟨c - 97, by omega, by omega⟩
theorem in_abc {x : Str} {c : Nat} (h : x.cps.toList = [c]) : inD (.str x) (.str "abcdefghijklmnopqrstuvwxyz") = some (.dat (.bl (decide (97 ≤ c ∧ c ≤ 122)))) := by
  show ((match x.cps.toList with
    | [c] => some (decide (c ∈ ("abcdefghijklmnopqrstuvwxyz" : Str).cps.toList))
    | _ => some (!(Builtin.Str.occurrences "abcdefghijklmnopqrstuvwxyz" x 0 ("abcdefghijklmnopqrstuvwxyz" : Str).length 1).isEmpty)).map fun b => Rf.dat (.bl b)) = _
  rw [h]
  simp only [mem_abc]
  rfl
theorem is_name_ok (d : D) (h : pk d = true) : F_is_name [d] = some (.ok (.dat (.bl (isNm d)))) := by
  cases d with
  | str x =>
    have hx : x.length ≤ 16777216 := of_decide_eq_true h
    by_cases h1 : x.length = 1
    · have : ∃ c, x.cps.toList = [c] := by
        rw [len_list] at h1
        match e : x.cps.toList, h1 with
        | [c], _ => exact ⟨c, rfl⟩
      obtain ⟨c, hc⟩ := this
      have := in_abc hc
      simp [F_is_name, runDef_ap, c_is_name, st0, bnd_ap, isiG, isiOF, tyN, h1, this, isNm, hc]
    · have : isNm (.str x) = false := by
        unfold isNm
        rw [len_list] at h1
        match e : x.cps.toList, h1 with
        | [], _ => simp [e]
        | [c], h1 => simp at h1
        | _ :: _ :: _, _ => simp [e]
      rw [this]
      have h1' : ¬ (x.length : Int) = 1 := by omega
      simp [F_is_name, runDef_ap, c_is_name, st0, bnd_ap, isiG, isiOF, tyN, hx, h1']
  | ty n => cases h
  | cls n => cases h
  | ins _ _ _ => cases h
  | exc _ _ _ => cases h
  | _ => simp [F_is_name, runDef_ap, c_is_name, st0, bnd_ap, isiG, isiOF, tyN, isNm]
def bd : Option Int → D
  | none => .non
  | some i => .int i
def inB' (lo hi : Option Int) : D → Bool
  | .int i => lo.all (fun l => decide (l ≤ i)) && hi.all (fun h => decide (i ≤ h))
  | _ => false
theorem is_integer_ok (d : D) (lo hi : Option Int) (h : pk d = true) : F_is_integer [d, bd lo, bd hi] = some (.ok (.dat (.bl (inB' lo hi d)))) := by
  cases d with
  | int i =>
    cases lo with
    | none => cases hi <;> simp [F_is_integer, runDef_ap, c_is_integer, st0, bnd_ap, isiG, isiOF, tyN, isN, bd, inB']
    | some l => by_cases hl : l ≤ i <;> cases hi <;> simp [F_is_integer, runDef_ap, c_is_integer, st0, bnd_ap, isiG, isiOF, tyN, isN, bd, inB', hl]
  | ty n => cases h
  | cls n => cases h
  | ins _ _ _ => cases h
  | exc _ _ _ => cases h
  | _ => simp [F_is_integer, runDef_ap, c_is_integer, st0, bnd_ap, isiG, isiOF, tyN, isN, inB']
/-- a pair's items are plain -/
def pk2 : D → Bool
  | .tup [a, b] => pk a && pk b
  | d => pk d
def bellB : D → Bool
  | .tup [a, b] => isNm a && inB' (some 1) (some 30) b
  | _ => false
theorem is_bell_ok (d : D) (h : pk2 d = true) : F_is_bell [d] = some (.ok (.dat (.bl (bellB d)))) := by
  cases d with
  | tup ds =>
    match ds, h with
    | [], h => simp [F_is_bell, runDef_ap, c_is_bell, st0, bnd_ap, isiG, isiOF, tyN, bellB]
    | [a], h => simp [F_is_bell, runDef_ap, c_is_bell, st0, bnd_ap, isiG, isiOF, tyN, bellB]
    | [a, b], h =>
      obtain ⟨h1, h2⟩ := Bool.and_eq_true_iff.mp (show (pk a && pk b) = true from h)
      have e1 := is_name_ok a h1
      have e2 := is_integer_ok b (some 1) (some 30) h2
      simp only [bd] at e2
      cases hn : isNm a <;> simp [F_is_bell, runDef_ap, c_is_bell, st0, bnd_ap, isiG, isiOF, tyN, bellB, e1, e2, hn]
    | a :: b :: c :: r, h =>
      have : ¬ ((r.length : Int) + 1 + 1 + 1 = 2) := by omega
      simp [F_is_bell, runDef_ap, c_is_bell, st0, bnd_ap, isiG, isiOF, tyN, bellB, this]
  | str x => simp [F_is_bell, runDef_ap, c_is_bell, st0, bnd_ap, isiG, isiOF, tyN, bellB]
  | ty n => cases h
  | cls n => cases h
  | ins _ _ _ => cases h
  | exc _ _ _ => cases h
  | _ => simp [F_is_bell, runDef_ap, c_is_bell, st0, bnd_ap, isiG, isiOF, tyN, bellB]
/-! ### the faults of a tower -/
def first : D → List Nat
  | .tup (a :: _) => codes a
  | _ => []
def flt (before : List Nat) (k : Nat) : List D → Option Nat
  | [] => none
  | d :: ds => if bellB d && decide (before < first d) then flt (first d) (k + 1) ds else some k
def outF : Option Nat → List D
  | none => []
  | some k => [.int k]
def faultsD : D → List D
  | .tup ds => if 1 ≤ ds.length ∧ ds.length ≤ 5 then outF (flt [] 0 ds) else [.non]
  | _ => [.non]
theorem enumD_is (ds : List D) : enumD ds = (ds.zipIdx 0).map fun p => .tup [.int (p.2 : Nat), p.1] := rfl
theorem isNm_str {a : D} (h : isNm a = true) : ∃ x c, a = .str x ∧ x.cps.toList = [c] ∧ 97 ≤ c ∧ c ≤ 122 := by
  cases a with
  | str x =>
    simp only [isNm] at h
    split at h
    · rename_i c e
      exact ⟨x, c, rfl, e, of_decide_eq_true h⟩
    · cases h
  | _ => simp [isNm] at h
theorem bellB_is {d : D} (h : bellB d = true) : ∃ x c i, d = .tup [.str x, .int i] ∧ x.cps.toList = [c] ∧ 97 ≤ c ∧ c ≤ 122 ∧ 1 ≤ i ∧ i ≤ 30 := by
  cases d with
  | tup ds =>
    match ds, h with
    | [a, b], h =>
      obtain ⟨h1, h2⟩ := Bool.and_eq_true_iff.mp (show (isNm a && inB' (some 1) (some 30) b) = true from h)
      obtain ⟨x, c, rfl, hc, c1, c2⟩ := isNm_str h1
      cases b with
      | int i =>
        simp [inB'] at h2
        exact ⟨x, c, i, rfl, hc, c1, c2, h2.1, h2.2⟩
      | _ => simp [inB'] at h2
  | _ => simp [bellB] at h
theorem leD_str (x y : Str) : leD (.str x) (.str y) = some (.dat (.bl (!decide (y.cps.toList < x.cps.toList)))) := rfl
noncomputable abbrev tfB : M Fl := (sSeq (sIf (sOrT (sNotT (sB (sCallF (argN 1 F_is_bell) (sCons (cap (sVar 3)) sNil)))) (sB (sBin leD (sBin ixD (sVar 3) (sK (.int 0))) (sVar 1))))
 (sRet (sLst (sCons (cap (sVar 2)) sNil)))
 sSkip)
 (sSet 1 (sBin ixD (sVar 3) (sK (.int 0)))))
theorem tf_loop : ∀ (ds : List D) (k : Nat) (d : D) (b : Str) (x y : Sl), (x = .un ∨ ∃ d, x = .dat d) → (y = .un ∨ ∃ d, y = .dat d) → (∀ e ∈ ds, pk2 e = true) →
    (flt b.cps.toList k ds = none ∧ ∃ Γ, loopF (gTupD 2 (gMore (gSet 2) (gMore (gSet 3) gNone))) tfB ((ds.zipIdx k).map fun p => .tup [.int (p.2 : Nat), p.1]) [.dat d, .dat (.str b), x, y] = some (.ok .nx, Γ)) ∨
    ∃ j, flt b.cps.toList k ds = some j ∧ ∃ Γ, loopF (gTupD 2 (gMore (gSet 2) (gMore (gSet 3) gNone))) tfB ((ds.zipIdx k).map fun p => .tup [.int (p.2 : Nat), p.1]) [.dat d, .dat (.str b), x, y] = some (.ok (.rt (.own (.lst [.int j]))), Γ)
  | [], k, d, b, x, y, hx, hy, hp => .inl ⟨rfl, _, rfl⟩
  | e :: ds, k, d, b, x, y, hx, hy, hp => by
    have he := is_bell_ok e (hp e (by simp))
    rw [List.zipIdx_cons, List.map_cons, loopF_cons]
    by_cases hb : bellB e = true
    · obtain ⟨z, c, i, rfl, hc, c1, c2, i1, i2⟩ := bellB_is hb
      by_cases hl : b.cps.toList < z.cps.toList
      · have ih := tf_loop ds (k + 1) d z (.dat (.int k)) (.dat (.tup [.str z, .int i])) (.inr ⟨_, rfl⟩) (.inr ⟨_, rfl⟩) fun e he => hp e (by simp [he])
        have e1 : flt b.cps.toList k (.tup [.str z, .int i] :: ds) = flt z.cps.toList (k + 1) ds := by
          show (if _ then _ else _) = _
          rw [hb, if_pos (by simp [first, codes, hl])]
          rfl
        rw [e1]
        simpa [bnd_ap, he, hb, leD_str, hl] using ih
      · have e1 : flt b.cps.toList k (.tup [.str z, .int i] :: ds) = some k := by
          show (if _ then _ else _) = _
          rw [if_neg (by simp [first, codes, hl])]
        refine .inr ⟨k, e1, ?_⟩
        simp [bnd_ap, he, hb, leD_str, hl, mkLst_ok]
    · have e1 : flt b.cps.toList k (e :: ds) = some k := by
        show (if _ then _ else _) = _
        rw [if_neg (by simp [hb])]
      refine .inr ⟨k, e1, ?_⟩
      simp only [Bool.not_eq_true] at hb
      simp [bnd_ap, he, hb, mkLst_ok]
def pkT : D → Bool
  | .tup ds => ds.all pk2
  | d => pk d
theorem pkT_not {d : D} (h : pkT d = true) (hn : ∀ ds, d ≠ .tup ds) : F_tower_faults [d] = some (.ok (.own (.lst [.non]))) ∧ faultsD d = [.non] := by
  cases d with
  | tup ds => exact absurd rfl (hn ds)
  | ty n => cases h
  | cls n => cases h
  | ins _ _ _ => cases h
  | exc _ _ _ => cases h
  | _ => exact ⟨by simp [F_tower_faults, runDef_ap, c_tower_faults, st0, bnd_ap, isiG, isiOF, tyN, mkLst_ok], rfl⟩
theorem enumA_tup (ds : List D) : enumA [.tup ds] = some ((ds.zipIdx 0).map fun p => .tup [.int (p.2 : Nat), p.1]) := rfl
theorem faults_ok {d : D} (h : pkT d = true) : F_tower_faults [d] = some (.ok (.own (.lst (faultsD d)))) := by
  by_cases hn : ∀ ds, d ≠ .tup ds
  · rw [(pkT_not h hn).2]; exact (pkT_not h hn).1
  · obtain ⟨ds, hd⟩ := Classical.not_forall.mp hn
    have hd : d = .tup ds := Classical.not_not.mp hd
    subst hd
    have hp : ∀ e ∈ ds, pk2 e = true := List.all_eq_true.mp h
    by_cases h1 : 1 ≤ ds.length
    · by_cases h5 : ds.length ≤ 5
      · have e1 : faultsD (.tup ds) = outF (flt [] 0 ds) := if_pos ⟨h1, h5⟩
        rw [e1]
        have hi1 : (1 : Int) ≤ (ds.length : Int) := by omega
        have hi5 : (ds.length : Int) ≤ 5 := by omega
        have empty : ("" : Str).cps.toList = [] := by decide +kernel
        have key := tf_loop ds 0 (.tup ds) "" .un .un (.inl rfl) (.inl rfl) hp
        rw [empty] at key
        rcases key with ⟨e2, Γ, e3⟩ | ⟨j, e2, Γ, e3⟩
        · rw [e2]
          simp [F_tower_faults, runDef_ap, c_tower_faults, st0, bnd_ap, isiG, isiOF, tyN, hi1, hi5, enumA_tup]
          rw [e3]
          rfl
        · rw [e2]
          simp [F_tower_faults, runDef_ap, c_tower_faults, st0, bnd_ap, isiG, isiOF, tyN, hi1, hi5, enumA_tup]
          rw [e3]
          rfl
      · have e1 : faultsD (.tup ds) = [.non] := if_neg (by omega)
        have hi1 : (1 : Int) ≤ (ds.length : Int) := by omega
        have hi5 : ¬ (ds.length : Int) ≤ 5 := by omega
        simp [F_tower_faults, runDef_ap, c_tower_faults, st0, bnd_ap, isiG, isiOF, tyN, hi1, hi5, e1, mkLst_ok]
    · have e1 : faultsD (.tup ds) = [.non] := if_neg (by omega)
      have hi1 : ¬ (1 : Int) ≤ (ds.length : Int) := by omega
      simp [F_tower_faults, runDef_ap, c_tower_faults, st0, bnd_ap, isiG, isiOF, tyN, hi1, e1, mkLst_ok]
end Law

namespace Law
open PySem DL G
/-! ### common multiples -/
theorem gcd_step (a b : Nat) : Nat.gcd a b = Nat.gcd b (a % b) := by
  rw [Nat.gcd_comm a b, Nat.gcd_rec, Nat.gcd_comm]
theorem gcd_cm : ∀ (b a : Nat) (x y z : Sl), sWhile (sB (sBin gtD (sVar 4) (sK (.int 0)))) (sPar [3, 4] (rCons (sVar 4) (rCons (sBin modD (sVar 3) (sVar 4)) rNil))) [x, y, z, .dat (.int a), .dat (.int b)] = some (.ok .nx, [x, y, z, .dat (.int (Nat.gcd a b)), .dat (.int 0)]) := by
  intro b
  induction b using Nat.strongRecOn with
  | _ b ih =>
    intro a x y z
    by_cases hb : b = 0
    · subst hb
      rw [Nat.gcd_zero_right]
      exact sWhile_stop (by simp [bnd_ap])
    · have h0 : 0 < b := by omega
      rw [gcd_step, ← ih (a % b) (Nat.mod_lt _ h0) b x y z]
      exact sWhile_step (Γ1 := [x, y, z, .dat (.int a), .dat (.int b)]) (f := .nx) (by simp [bnd_ap, h0]) (by simp [bnd_ap, h0]) (.inl rfl)
theorem gcd_law : ∀ (b a : Nat), sWhile (sB (sBin neD (sVar 1) (sK (.int 0)))) (sPar [0, 1] (rCons (sVar 1) (rCons (sBin modD (sVar 0) (sVar 1)) rNil))) [.dat (.int a), .dat (.int b)] = some (.ok .nx, [.dat (.int (Nat.gcd a b)), .dat (.int 0)]) := by
  intro b
  induction b using Nat.strongRecOn with
  | _ b ih =>
    intro a
    by_cases hb : b = 0
    · subst hb
      rw [Nat.gcd_zero_right]
      exact sWhile_stop (by simp [bnd_ap])
    · have h0 : 0 < b := by omega
      rw [gcd_step, ← ih (a % b) (Nat.mod_lt _ h0) b]
      exact sWhile_step (Γ1 := [.dat (.int a), .dat (.int b)]) (f := .nx) (by simp [bnd_ap, hb]) (by simp [bnd_ap, h0]) (.inl rfl)
def lcmL (f : Nat) (ps : List Nat) : Nat := ps.foldl (fun f p => f / Nat.gcd f p * p) f
theorem lcmL_cons (f p : Nat) (ps : List Nat) : lcmL f (p :: ps) = lcmL (f / Nat.gcd f p * p) ps := by
  unfold lcmL
  rw [List.foldl_cons]
theorem lcm_pos {f p : Nat} (h1 : 0 < f) (h2 : 0 < p) : 0 < f / Nat.gcd f p * p := by
  have := Nat.div_pos (Nat.le_of_dvd h1 (Nat.gcd_dvd_left f p)) (Nat.gcd_pos_of_pos_left p h1)
  exact Nat.mul_pos this h2
def natI (n : Nat) : D := .int n
theorem cm_loop : ∀ (ps : List Nat) (f : Nat) (x y z w : Sl), 0 < f → (∀ p ∈ ps, 0 < p ∧ p ≤ 1000) → ∃ y' z' w', loopF (gSet 2) (sSeq (sPar [3, 4] (rCons (sVar 1) (rCons (sVar 2) rNil)))
 (sSeq (sWhile (sB (sBin gtD (sVar 4) (sK (.int 0))))
 (sPar [3, 4] (rCons (sVar 4) (rCons (sBin modD (sVar 3) (sVar 4)) rNil))))
 (sSet 1 (sBin mulD (sBin divD (sVar 1) (sVar 3)) (sVar 2))))) (ps.map natI) [x, .dat (.int f), y, z, w] = some (.ok .nx, [x, .dat (.int (lcmL f ps)), y', z', w'])
  | [], f, x, y, z, w, hf, hp => ⟨y, z, w, rfl⟩
  | p :: ps, f, x, y, z, w, hf, hp => by
    obtain ⟨p0, p1⟩ := hp p (by simp)
    have g0 : 0 < Nat.gcd f p := Nat.gcd_pos_of_pos_left p hf
    have g1 : Nat.gcd f p ≤ p := Nat.le_of_dvd p0 (Nat.gcd_dvd_right f p)
    have g0' : (0 : Int) < ((Nat.gcd f p : Nat) : Int) := by omega
    have g1' : ((Nat.gcd f p : Nat) : Int) < 18446744073709551616 := by omega
    have s1 : (-18446744073709551616 : Int) < (p : Int) := by omega
    have s2 : (p : Int) < 18446744073709551616 := by omega
    have key := gcd_cm p f x (.dat (.int f)) (.dat (.int p))
    obtain ⟨y', z', w', ih⟩ := cm_loop ps (f / Nat.gcd f p * p) x (.dat (.int p)) (.dat (.int (Nat.gcd f p))) (.dat (.int 0)) (lcm_pos hf p0) fun q hq => hp q (by simp [hq])
    refine ⟨y', z', w', ?_⟩
    rw [lcmL_cons, ← ih, List.map_cons, loopF_cons]
    generalize Nat.gcd f p = gg at *
    simp [bnd_ap, natI, key, g0, g1', s1, s2]
theorem common_ok {ps : List Nat} (hp : ∀ p ∈ ps, 0 < p ∧ p ≤ 1000) : F_common_multiple [.tup (ps.map natI)] = some (.ok (.dat (.int (lcmL 1 ps)))) := by
  obtain ⟨y', z', w', e⟩ := cm_loop ps 1 (.dat (.tup (ps.map natI))) .un .un .un (by decide) hp
  simp [F_common_multiple, runDef_ap, c_common_multiple, st0, bnd_ap]
  rw [show (1 : Int) = ((1 : Nat) : Int) from rfl, e]
  simp [bnd_ap]
end Law

namespace Law
open PySem DL G
theorem divisor_ok (a b : Nat) : F_law_divisor [.int a, .int b] = some (.ok (.dat (.int (Nat.gcd a b)))) := by
  simp [F_law_divisor, runDef_ap, c_law_divisor, st0, bnd_ap]
  rw [gcd_law]
  simp [bnd_ap]
end Law

namespace Law
open PySem DL G
/-! ### a tower is made -/
def fstD : D → D
  | .tup (a :: _) => a
  | d => d
def sndD : D → D
  | .tup (_ :: b :: _) => b
  | d => d
def perN (l : List (Nat × Int)) : List Nat := l.map fun q => q.2.toNat
def bellsD (l : List (Nat × Int)) : D := .tup (l.map bellD)
def namesS (l : List (Nat × Int)) : Str := ⟨(l.map (·.1)).toArray⟩
def persD (l : List (Nat × Int)) : List D := (perN l).map natI
def towerD (l : List (Nat × Int)) : D := .ins k_Tower ["own_bells", "own_names", "own_periods", "own_round"] [bellsD l, .str (namesS l), .tup (persD l), .int (lcmL 1 (perN l))]
def nmsD (l : List (Nat × Int)) : List D := (l.map (·.1)).map L1
theorem fst_bells (l : List (Nat × Int)) : (l.map bellD).map fstD = nmsD l := by unfold nmsD; rw [List.map_map, List.map_map]; rfl
theorem join_nms {l : List (Nat × Int)} (h : l.length ≤ 1000) : joinF (.str "") (.lst (nmsD l)) = some (.dat (.str (namesS l))) := joinF_L1 (l.map fun q : Nat × Int => q.1) (by rw [List.length_map]; exact h)
@[simp] theorem seqI_bells (l : List (Nat × Int)) : seqI (bellsD l) = some (l.map bellD) := rfl
theorem snd_bells {l : List (Nat × Int)} (h : ∀ q ∈ l, 1 ≤ q.2) : (l.map bellD).map sndD = persD l := by
  unfold persD perN
  rw [List.map_map, List.map_map]
  refine List.map_congr_left fun q hq => ?_
  have := h q hq
  show D.int q.2 = D.int ((q.2.toNat : Nat) : Int)
  rw [Int.toNat_of_nonneg (by omega)]
theorem comp1 {l : List (Nat × Int)} (a b : Nat) (c : M Rf) (f : D → D) (Γ0 : List Sl) (hl : l.length ≤ 1000)
    (h : ∀ q ∈ l, ∃ Γa Γc, gTupD 2 (gMore (gSet a) (gMore (gSet b) gNone)) (bellD q) Γ0 = some (.ok (), Γa) ∧ cap c Γa = some (.ok (f (bellD q)), Γc) ∧ wipeG Γc [a, b] = Γ0) :
    loopL (gTupD 2 (gMore (gSet a) (gMore (gSet b) gNone))) (DL.ret true) (cap c) [a, b] (l.map bellD) [] Γ0 = some (.ok ((l.map bellD).map f), Γ0) :=
  loopL_map _ (fun d hd => by
    obtain ⟨q, hq, rfl⟩ := List.mem_map.mp hd
    exact h q hq) (by rw [List.length_map]; omega)
structure BellsT (l : List (Nat × Int)) : Prop where
  lo : 1 ≤ l.length
  hi : l.length ≤ 5
  asc : (l.map (·.1)).Pairwise (· < ·)
  abc : ∀ q ∈ l, 97 ≤ q.1 ∧ q.1 ≤ 122
  per : ∀ q ∈ l, 1 ≤ q.2 ∧ q.2 ≤ 30
theorem Bells.t {lo hi : Nat} {per : Int} {l : List (Nat × Int)} (b : Bells lo hi per l) (h1 : 1 ≤ lo) (h2 : hi ≤ 5) (h3 : per ≤ 30) : BellsT l :=
  ⟨Nat.le_trans h1 b.lo, Nat.le_trans b.hi h2, b.asc, b.abc, fun q hq => ⟨(b.per q hq).1, Int.le_trans (b.per q hq).2 h3⟩⟩
theorem per_pos {l : List (Nat × Int)} (b : BellsT l) : ∀ p ∈ perN l, 0 < p ∧ p ≤ 1000 := fun p hp => by
  obtain ⟨q, hq, rfl⟩ := List.mem_map.mp hp
  have := b.per q hq
  show 0 < q.2.toNat ∧ q.2.toNat ≤ 1000
  omega
theorem flt_none : ∀ {ds : List D} {b : List Nat} {k : Nat}, flt b k ds = none → ∃ l : List (Nat × Int), ds = l.map bellD ∧ (∀ q ∈ l, 97 ≤ q.1 ∧ q.1 ≤ 122) ∧ (∀ q ∈ l, 1 ≤ q.2 ∧ q.2 ≤ 30) ∧ (l.map (·.1)).Pairwise (· < ·) ∧ ∀ q ∈ l, b < [q.1]
  | [], b, k, h => ⟨[], rfl, by simp, by simp, by simp, by simp⟩
  | d :: ds, b, k, h => by
    unfold flt at h
    split at h
    · rename_i hc
      obtain ⟨h1, h2⟩ := Bool.and_eq_true_iff.mp hc
      obtain ⟨x, c, i, rfl, hx, c1, c2, i1, i2⟩ := bellB_is h1
      have hf : first (.tup [.str x, .int i]) = [c] := hx
      rw [hf] at h h2
      obtain ⟨l, rfl, g1, g2, g3, g4⟩ := flt_none h
      have hlt : ∀ q ∈ l, c < q.1 := fun q hq => by
        have := g4 q hq
        cases this with
        | rel z => exact z
        | cons z => cases z
      have ex : x = ⟨#[c]⟩ := by
        cases x with
        | mk a =>
          have : a.toList = [c] := hx
          congr 1
          exact Array.ext' this
      refine ⟨(c, i) :: l, by rw [List.map_cons]; unfold bellD L1; rw [ex], ?_, ?_, ?_, ?_⟩
      · intro q hq
        rcases List.mem_cons.mp hq with rfl | hq
        · exact ⟨c1, c2⟩
        · exact g1 q hq
      · intro q hq
        rcases List.mem_cons.mp hq with rfl | hq
        · exact ⟨i1, i2⟩
        · exact g2 q hq
      · rw [List.map_cons, List.pairwise_cons]
        refine ⟨fun a ha => ?_, g3⟩
        obtain ⟨q, hq, rfl⟩ := List.mem_map.mp ha
        exact hlt q hq
      · intro q hq
        have hb : b < [c] := of_decide_eq_true h2
        rcases List.mem_cons.mp hq with rfl | hq
        · exact hb
        · exact List.lt_trans hb (List.Lex.rel (hlt q hq))
    · cases h
theorem flt_some : ∀ {l : List (Nat × Int)} {b : List Nat} {k : Nat}, (∀ q ∈ l, 97 ≤ q.1 ∧ q.1 ≤ 122) → (∀ q ∈ l, 1 ≤ q.2 ∧ q.2 ≤ 30) → (l.map (·.1)).Pairwise (· < ·) → (∀ q ∈ l, b < [q.1]) → flt b k (l.map bellD) = none
  | [], b, k, _, _, _, _ => rfl
  | q :: l, b, k, h1, h2, h3, h4 => by
    have hb : bellB (bellD q) = true := by
      have a1 := h1 q (by simp)
      have a2 := h2 q (by simp)
      show (decide (97 ≤ q.1 ∧ q.1 ≤ 122) && (decide (1 ≤ q.2) && decide (q.2 ≤ 30))) = true
      rw [decide_eq_true a1, decide_eq_true a2.1, decide_eq_true a2.2]; rfl
    have hf : first (bellD q) = [q.1] := rfl
    rw [List.map_cons, List.pairwise_cons] at h3
    rw [List.map_cons]
    show (if _ then _ else _) = _
    rw [hb, hf, if_pos (by rw [Bool.true_and]; exact decide_eq_true (h4 q (by simp)))]
    refine flt_some (fun x hx => h1 x (by simp [hx])) (fun x hx => h2 x (by simp [hx])) h3.2 fun x hx => List.Lex.rel ?_
    exact h3.1 _ (List.mem_map.mpr ⟨x, hx, rfl⟩)
theorem faults_bells {l : List (Nat × Int)} (b : BellsT l) : faultsD (bellsD l) = [] := by
  show (if 1 ≤ (l.map bellD).length ∧ (l.map bellD).length ≤ 5 then outF (flt [] 0 (l.map bellD)) else [.non]) = _
  rw [List.length_map, if_pos ⟨b.lo, b.hi⟩, flt_some b.abc b.per b.asc fun q _ => List.Lex.nil]
  rfl
theorem pkT_bells (l : List (Nat × Int)) : pkT (bellsD l) = true := by
  show (l.map bellD).all pk2 = true
  refine List.all_eq_true.mpr fun d hd => ?_
  obtain ⟨q, _, rfl⟩ := List.mem_map.mp hd
  rfl
/-- no fault: bells -/
theorem no_fault {d : D} (h : faultsD d = []) : ∃ l, BellsT l ∧ d = bellsD l := by
  cases d with
  | tup ds =>
    unfold faultsD at h
    simp only at h
    split at h
    · rename_i hl
      cases e : flt [] 0 ds with
      | none =>
        obtain ⟨l, rfl, h1, h2, h3, _⟩ := flt_none e
        rw [List.length_map] at hl
        exact ⟨l, ⟨hl.1, hl.2, h3, h1, h2⟩, rfl⟩
      | some k => rw [e] at h; cases h
    · cases h
  | _ => cases h
theorem init_ok {l : List (Nat × Int)} (b : BellsT l) : F_Tower___init (.ins k_Tower [] []) [bellsD l] = some (.ok (.dat .non), towerD l) := by
  have e1 := faults_ok (pkT_bells l)
  rw [faults_bells b] at e1
  have e2 : F_common_multiple [.tup (persD l)] = _ := common_ok (per_pos b)
  have len : l.length ≤ 1000 := by have := b.hi; omega
  have e3 := join_nms len
  have s1 := fst_bells l
  have s2 := snd_bells (l := l) fun q hq => (b.per q hq).1
  have c1 := fun d => comp1 (l := l) 3 4 (sVar 3) fstD [.own d, .dat (bellsD l), .un, .un, .un] len fun q hq => ⟨[.own d, .dat (bellsD l), .un, .dat (L1 q.1), .dat (.int q.2)], _, rfl, rfl, rfl⟩
  have c2 := fun d => comp1 (l := l) 3 4 (sVar 4) sndD [.own d, .dat (bellsD l), .un, .un, .un] len fun q hq => ⟨[.own d, .dat (bellsD l), .un, .dat (L1 q.1), .dat (.int q.2)], _, rfl, rfl, rfl⟩
  have hb : bellsD l = .tup (l.map bellD) := rfl
  simp only [s1, s2] at c1 c2
  simp [F_Tower___init, runDefM_ap, c_Tower___init, st0, bnd_ap, e1, c1, c2, e2, e3, towerD]
end Law

namespace Law
open PySem DL G
/-! ### sizes -/
theorem lcm_le : ∀ (ps : List Nat) (f : Nat), (∀ p ∈ ps, 0 < p ∧ p ≤ 1000) → lcmL f ps ≤ f * 1000 ^ ps.length
  | [], f, h => by show f ≤ f * 1000 ^ 0; omega
  | p :: ps, f, h => by
    rw [lcmL_cons, List.length_cons, Nat.pow_succ]
    have ih := lcm_le ps (f / Nat.gcd f p * p) fun q hq => h q (by simp [hq])
    have h1 : f / Nat.gcd f p * p ≤ f * 1000 := Nat.mul_le_mul (Nat.div_le_self _ _) (h p (by simp)).2
    have h2 : f / Nat.gcd f p * p * 1000 ^ ps.length ≤ f * 1000 * 1000 ^ ps.length := Nat.mul_le_mul_right _ h1
    have h3 : f * 1000 * 1000 ^ ps.length = f * (1000 ^ ps.length * 1000) := by rw [Nat.mul_assoc, Nat.mul_comm 1000]
    omega
theorem lcm_small {l : List (Nat × Int)} (b : BellsT l) : lcmL 1 (perN l) < 10000000000000000 := by
  have h := lcm_le (perN l) 1 (per_pos b)
  have hl : (perN l).length ≤ 5 := by rw [show (perN l).length = l.length from List.length_map _]; exact b.hi
  have h2 : 1000 ^ (perN l).length ≤ 1000 ^ 5 := Nat.pow_le_pow_right (by decide) hl
  have h3 : (1000 : Nat) ^ 5 = 1000000000000000 := by decide
  omega
theorem log_small {i : Int} (h0 : 0 ≤ i) (h : i < 10000000000000000) : i.natAbs.log2 < 1920 := by
  by_cases z : i.natAbs = 0
  · rw [z]; decide
  · rw [Nat.log2_lt z]
    have : (10000000000000000 : Nat) < 2 ^ 1920 := by
      have : (2 : Nat) ^ 60 ≤ 2 ^ 1920 := Nat.pow_le_pow_right (by decide) (by decide)
      have h60 : (2 : Nat) ^ 60 = 1152921504606846976 := by decide
      omega
    omega
theorem fine_int {i : Int} (h0 : 0 ≤ i) (h : i < 10000000000000000) : fine (.int i) = true := decide_eq_true (log_small h0 h)
theorem fineL_all : ∀ {ds : List D}, (∀ d ∈ ds, fine d = true) → fineL ds = true
  | [], _ => rfl
  | d :: ds, h => by
    show (fine d && fineL ds) = true
    rw [h d (by simp), fineL_all fun e he => h e (by simp [he])]; rfl
theorem wtL_le : ∀ {ds : List D} {n : Nat}, (∀ d ∈ ds, wt d ≤ n) → wtL ds ≤ ds.length * (n + 2)
  | [], n, _ => Nat.zero_le _
  | d :: ds, n, h => by
    have h1 := h d (by simp)
    have h2 := wtL_le (ds := ds) (n := n) fun e he => h e (by simp [he])
    show wt d + 2 + wtL ds ≤ (ds.length + 1) * (n + 2)
    rw [Nat.succ_mul]
    omega
end Law

namespace Law
open PySem DL G
/-! ### rows of first strikes -/
def RowP : List Nat → List Nat → Prop
  | [], [] => True
  | p :: ps, r :: rs => r < p ∧ RowP ps rs
  | _, _ => False
theorem RowP.len : ∀ {ps rs : List Nat}, RowP ps rs → rs.length = ps.length
  | [], [], _ => rfl
  | p :: ps, r :: rs, h => by rw [List.length_cons, List.length_cons, RowP.len h.2]
def rowD (rs : List Nat) : D := .tup (rs.map natI)
theorem nat_int {i : Int} (h : 0 ≤ i) : D.int i = natI i.toNat := by
  show D.int i = D.int ((i.toNat : Nat) : Int)
  rw [Int.toNat_of_nonneg h]
noncomputable abbrev rwC : M Rf := sCallM (argM 2 F_law_next) (sVar 0) (sCons (cap (sVar 3)) sNil)
theorem row_loop : ∀ (l : List (Nat × Int)) (acc : List D) (s b : D) (m : Nat), Src m s → m + l.length < 100000000000 → acc.length + l.length ≤ 1000 → (∀ q ∈ l, 1 ≤ q.2 ∧ q.2 ≤ 30) → ∃ s' rs, RowP (perN l) rs ∧ Src (m + l.length) s' ∧
    loopL (gTupD 2 (gMore (gSet 2) (gMore (gSet 3) gNone))) (DL.ret true) (cap rwC) [2, 3] (l.map bellD) acc [.own s, .dat b, .un, .un] = some (.ok (acc ++ rs.map natI), [.own s', .dat b, .un, .un])
  | [], acc, s, b, m, hs, hm, ha, hp => ⟨s, [], trivial, hs, by simp [loopL]⟩
  | q :: l, acc, s, b, m, hs, hm, ha, hp => by
    simp only [List.length_cons] at hm ha
    have hq := hp q (by simp)
    obtain ⟨r, s1, e1, r0, r1, hs1⟩ := next_ok (n := q.2) hs (by omega) (by omega) (by omega)
    obtain ⟨s', rs, h1, h2, h3⟩ := row_loop l (acc ++ [natI r.toNat]) s1 b (m + 1) hs1 (by omega) (by rw [List.length_append, List.length_singleton]; omega) fun x hx => hp x (by simp [hx])
    refine ⟨s', r.toNat :: rs, ⟨by show r.toNat < q.2.toNat; omega, h1⟩, by rw [List.length_cons, show m + (l.length + 1) = m + 1 + l.length by omega]; exact h2, ?_⟩
    have e : acc ++ (r.toNat :: rs).map natI = acc ++ [natI r.toNat] ++ rs.map natI := by simp
    have hacc : acc.length < 16777216 := by omega
    rw [nat_int r0] at e1
    rw [e, ← h3]
    simp [loopL, bnd_ap, bellD, e1, hacc]
theorem row_ok {l : List (Nat × Int)} (b : BellsT l) {s : D} {m : Nat} (hs : Src m s) (hm : m < 1000000000) : ∃ s' rs, RowP (perN l) rs ∧ Src (m + 5) s' ∧ F_law_row s [bellsD l] = some (.ok (.dat (rowD rs)), s') := by
  have hl := b.hi
  obtain ⟨s', rs, h1, h2, h3⟩ := row_loop l [] s (bellsD l) m hs (by omega) (by simp; omega) b.per
  obtain ⟨x, y, z, rfl, z1, z2⟩ := h2
  refine ⟨_, rs, h1, ⟨x, y, z, rfl, z1, by omega⟩, ?_⟩
  have hb : seqI (bellsD l) = some (l.map bellD) := rfl
  simp [F_law_row, runDefM_ap, c_law_row, st0, bnd_ap]
  rw [h3]
  simp [rowD]
/-! ### .. checked -/
theorem isIns_tower (l : List (Nat × Int)) : isInsB k_Tower "" (towerD l) = true := by
  show (decide (k_Tower = k_Tower) && !(["own_bells", "own_names", "own_periods", "own_round"] : List Str).contains "") = true
  decide +kernel
theorem pr_periods (l : List (Nat × Int)) : F_Tower_periods [towerD l] = some (.ok (.dat (.tup (persD l)))) := by simp [F_Tower_periods, runDef_ap, c_Tower_periods, st0, bnd_ap, towerD]
theorem int_in {i lo hi : Int} (h1 : lo ≤ i) (h2 : i ≤ hi) : F_is_integer [.int i, .int lo, .int hi] = some (.ok (.dat (.bl true))) := by
  have h := is_integer_ok (.int i) (some lo) (some hi) rfl
  simp only [bd, inB', Option.all_some, decide_eq_true h1, decide_eq_true h2] at h
  exact h
noncomputable abbrev nfB : M Fl := (sIf (sNotT (sB (sCallF (argN 3 F_is_integer) (sCons (cap (sBin ixD (sVar 1) (sVar 3))) (sCons (cap (sK (.int 0))) (sCons (cap (sBin subD (sVar 4) (sK (.int 1)))) sNil))))))
 (sRaise k_InvalidFirsts ["index"] (sCons (cap (sVar 3)) sNil))
 sSkip)
theorem nf_loop : ∀ (ps rs pre : List Nat) (x0 x2 x3 x4 : Sl), RowP ps rs → ∃ y3 y4, loopF (gTupD 2 (gMore (gSet 3) (gMore (gSet 4) gNone))) nfB (((ps.map natI).zipIdx pre.length).map fun p => .tup [.int (p.2 : Nat), p.1]) [x0, .dat (rowD (pre ++ rs)), x2, x3, x4] = some (.ok .nx, [x0, .dat (rowD (pre ++ rs)), x2, y3, y4])
  | [], [], pre, x0, x2, x3, x4, h => ⟨x3, x4, rfl⟩
  | p :: ps, r :: rs, pre, x0, x2, x3, x4, h => by
    obtain ⟨y3, y4, ih⟩ := nf_loop ps rs (pre ++ [r]) x0 x2 (.dat (.int pre.length)) (.dat (natI p)) h.2
    rw [List.append_assoc, List.singleton_append, List.length_append, List.length_singleton] at ih
    refine ⟨y3, y4, ?_⟩
    rw [List.map_cons, List.zipIdx_cons, List.map_cons, loopF_cons]
    have hr : r < p := h.1
    have e1 : F_is_integer [.int (r : Int), .int 0, .int ((p : Int) - 1)] = some (.ok (.dat (.bl true))) := int_in (by omega) (by omega)
    have e2 : ixD (rowD (pre ++ r :: rs)) (.int (pre.length : Int)) = some (.dat (.int (r : Int))) := by
      show (L2.atI ((pre ++ r :: rs).map natI) ((pre.length : Nat) : Int)).map Rf.dat = _
      rw [atI_nat, List.getElem?_map]
      simp [natI]
    rw [← ih]
    generalize rowD (pre ++ r :: rs) = R at *
    simp [bnd_ap, natI, e1, e2]
theorem lenF_row (rs : List Nat) : lenF [rowD rs] = some (.dat (.int rs.length)) := by
  show some (Rf.dat (.int ((rs.map natI).length : Nat))) = _
  rw [List.length_map]
theorem len_pers (l : List (Nat × Int)) : (perN l).length = l.length := List.length_map _
theorem len_persD (l : List (Nat × Int)) : (persD l).length = l.length := by
  unfold persD
  rw [List.length_map, len_pers]
theorem need_ok {l : List (Nat × Int)} {rs : List Nat} (h : RowP (perN l) rs) : F_need_firsts [towerD l, rowD rs] = some (.ok (.dat .non)) := by
  obtain ⟨y3, y4, e⟩ := nf_loop (perN l) rs [] (.dat (towerD l)) (.dat (.tup (persD l))) .un .un h
  rw [List.nil_append] at e
  have e1 := isIns_tower l
  have e2 := pr_periods l
  have e3 := lenF_row rs
  have e4 := h.len
  rw [len_pers] at e4
  rw [e4] at e3
  have e5 := len_persD l
  have e6 : enumA [.tup (persD l)] = some (((((perN l).map natI).zipIdx 0).map fun p => .tup [.int (p.2 : Nat), p.1])) := rfl
  have e7 : isiG [rowD rs, .ty "tuple"] = some (.dat (.bl true)) := by
    unfold rowD
    simp [isiG, isiOF, tyN]
  generalize towerD l = tw at *
  generalize rowD rs = rw' at *
  simp [F_need_firsts, runDef_ap, c_need_firsts, st0, bnd_ap, e1, e2, e3, e5, e6, e7]
  simp only [List.length_nil] at e
  rw [e]
  simp
end Law

namespace Law
open PySem DL G
/-! ### ranges -/
theorem sm62_ok {i : Int} (h0 : 0 ≤ i) (h1 : i ≤ 1000000) : sm62 i = true := by
  show (decide _ && decide _) = true
  rw [decide_eq_true (by omega), decide_eq_true (by omega)]; rfl
theorem range1_int {i : Int} (h0 : 0 ≤ i) (h1 : i ≤ 1000000) : range1 [.int i] = some (rgD 0 i.toNat) := by
  show (if sm62 i then _ else _) = _
  rw [if_pos (sm62_ok h0 h1)]
theorem range2_int {i j : Int} (h0 : 0 ≤ i) (h1 : i ≤ 1000000) (g0 : 0 ≤ j) (g1 : j ≤ 1000000) : range2 [.int i, .int j] = some (rgD i (j - i).toNat) := by
  show (if sm62 i && sm62 j then _ else _) = _
  rw [sm62_ok h0 h1, sm62_ok g0 g1, if_pos (by rfl)]
theorem rgD_zero (n : Nat) : rgD 0 n = (List.range n).map natI := List.map_congr_left fun i _ => by rw [Int.zero_add]; rfl
theorem rgD_nat (a n : Nat) : rgD (a : Int) n = ((List.range n).map (a + ·)).map natI := by
  rw [List.map_map]
  exact List.map_congr_left fun k _ => by rw [← Int.natCast_add]; rfl
theorem range1_n {n : Nat} (h : n ≤ 1000000) : range1 [.int (n : Int)] = some ((List.range n).map natI) := by
  rw [range1_int (by omega) (by omega), Int.toNat_natCast, rgD_zero]
theorem range2_n {a b : Nat} (h : a ≤ 1000000) (h' : b ≤ 1000000) : range2 [.int (a : Int), .int (b : Int)] = some (((List.range (b - a)).map (a + ·)).map natI) := by
  rw [range2_int (by omega) (by omega) (by omega) (by omega), show ((b : Int) - (a : Int)).toNat = b - a by omega, rgD_nat]
/-! ### pairs of bells -/
def pairs (n : Nat) : List (Nat × Nat) := (List.range n).flatMap fun i => (List.range (n - (i + 1))).map fun k => (i, i + 1 + k)
def prD (p : Nat × Nat) : D := .tup [natI p.1, natI p.2]
theorem upto5 {n : Nat} (h : n ≤ 5) : n = 0 ∨ n = 1 ∨ n = 2 ∨ n = 3 ∨ n = 4 ∨ n = 5 := by omega
theorem pairs_ok {n : Nat} (h : n ≤ 5) : F_pairs_of [.int (n : Int)] = some (.ok (.own (.lst ((pairs n).map prD)))) := by
  rcases upto5 h with rfl | rfl | rfl | rfl | rfl | rfl <;> rfl
theorem pairs_lt {n : Nat} {p : Nat × Nat} (h : p ∈ pairs n) : p.1 < p.2 ∧ p.2 < n := by
  unfold pairs at h
  simp only [List.mem_flatMap, List.mem_map, List.mem_range] at h
  obtain ⟨i, hi, k, hk, rfl⟩ := h
  show i < i + 1 + k ∧ i + 1 + k < n
  omega
theorem pairs_mem {n i j : Nat} (h : i < j) (g : j < n) : (i, j) ∈ pairs n := by
  unfold pairs
  simp only [List.mem_flatMap, List.mem_map, List.mem_range]
  exact ⟨i, by omega, j - (i + 1), by omega, by congr 1; omega⟩
theorem pairs_len {n : Nat} (h : n ≤ 5) : (pairs n).length ≤ 10 := by
  rcases upto5 h with rfl | rfl | rfl | rfl | rfl | rfl <;> decide
/-! ### places -/
def place (d g : Int) : Int := d / g - (0 - d) / g
theorem place_ok {d g : Int} (h : 0 < g) (h2 : g < 18446744073709551616) : F_place_of [.int d, .int g] = some (.ok (.dat (.int (place d g)))) := by
  simp [F_place_of, runDef_ap, c_place_of, st0, bnd_ap, h, h2, place]
theorem gcd_dv : ∀ (b a : Nat), sWhile (sB (sBin gtD (sVar 1) (sK (.int 0)))) (sPar [0, 1] (rCons (sVar 1) (rCons (sBin modD (sVar 0) (sVar 1)) rNil))) [.dat (.int a), .dat (.int b)] = some (.ok .nx, [.dat (.int (Nat.gcd a b)), .dat (.int 0)]) := by
  intro b
  induction b using Nat.strongRecOn with
  | _ b ih =>
    intro a
    by_cases hb : b = 0
    · subst hb
      rw [Nat.gcd_zero_right]
      exact sWhile_stop (by simp [bnd_ap])
    · have h0 : 0 < b := by omega
      rw [gcd_step, ← ih (a % b) (Nat.mod_lt _ h0) b]
      exact sWhile_step (Γ1 := [.dat (.int a), .dat (.int b)]) (f := .nx) (by simp [bnd_ap, h0]) (by simp [bnd_ap, h0]) (.inl rfl)
theorem div_ok (a b : Nat) : F_divisor_of [.int a, .int b] = some (.ok (.dat (.int (Nat.gcd a b)))) := by
  simp [F_divisor_of, runDef_ap, c_divisor_of, st0, bnd_ap]
  rw [gcd_dv]
  simp [bnd_ap]
def plc (ps rs : List Nat) (i j : Nat) : Int := place ((rs.getD i 0 : Nat) - (rs.getD j 0 : Nat) : Int) (Nat.gcd (ps.getD i 0) (ps.getD j 0) : Nat)
def places (ps rs : List Nat) : List Int := (pairs ps.length).map fun p => plc ps rs p.1 p.2
noncomputable abbrev plB : M Fl := (sDrop (sMut isLst appendM (sVar 2) (sCons (cap (sCallF (argN 2 F_place_of) (sCons (cap (sBin subD (sBin ixD (sVar 1) (sVar 3)) (sBin ixD (sVar 1) (sVar 4)))) (sCons (cap (sCallF (argN 2 F_divisor_of) (sCons (cap (sBin ixD (sVar 0) (sVar 3))) (sCons (cap (sBin ixD (sVar 0) (sVar 4))) sNil)))) sNil)))) sNil)))
theorem pl_turn {P R : D} {acc : List D} {i j a b c d g v : Int} (hl : acc.length < 16777216) (h1 : ixD R (.int i) = some (.dat (.int a))) (h2 : ixD R (.int j) = some (.dat (.int b))) (h3 : ixD P (.int i) = some (.dat (.int c))) (h4 : ixD P (.int j) = some (.dat (.int d)))
    (h5 : F_divisor_of [.int c, .int d] = some (.ok (.dat (.int g)))) (h6 : F_place_of [.int (a - b), .int g] = some (.ok (.dat (.int v)))) : plB [.dat P, .dat R, .own (.lst acc), .dat (.int i), .dat (.int j)] = some (.ok .nx, [.dat P, .dat R, .own (.lst (acc ++ [.int v])), .dat (.int i), .dat (.int j)]) := by
  simp [bnd_ap, h1, h2, h3, h4, h5, h6, hl]
theorem ix_nat {xs : List Nat} {i : Nat} (h : i < xs.length) : ixD (.tup (xs.map natI)) (.int (i : Int)) = some (.dat (.int ((xs.getD i 0 : Nat) : Int))) := by
  rw [ixD_tup, atI_nat, List.getElem?_map, List.getElem?_eq_getElem h]
  simp [natI, h]
theorem ix_row {rs : List Nat} {i : Nat} (h : i < rs.length) : ixD (rowD rs) (.int (i : Int)) = some (.dat (.int ((rs.getD i 0 : Nat) : Int))) := ix_nat h
theorem getD_pos {ps : List Nat} (hp : ∀ p ∈ ps, 0 < p ∧ p ≤ 1000) {i : Nat} (h : i < ps.length) : 0 < ps.getD i 0 ∧ ps.getD i 0 ≤ 1000 := by
  have := hp ps[i] (List.getElem_mem h)
  simpa [h] using this
theorem gcd_small {a b : Nat} (h : 0 < a) (h2 : a ≤ 1000) : (0 : Int) < (Nat.gcd a b : Nat) ∧ ((Nat.gcd a b : Nat) : Int) < 18446744073709551616 := by
  have h1 := Nat.gcd_pos_of_pos_left b h
  have h3 := Nat.le_of_dvd h (Nat.gcd_dvd_left a b)
  omega
theorem plc_ok {ps : List Nat} (rs : List Nat) {i : Nat} (j : Nat) (hp : 0 < ps.getD i 0 ∧ ps.getD i 0 ≤ 1000) : F_place_of [.int ((rs.getD i 0 : Nat) - (rs.getD j 0 : Nat) : Int), .int (Nat.gcd (ps.getD i 0) (ps.getD j 0) : Nat)] = some (.ok (.dat (.int (plc ps rs i j)))) := by
  obtain ⟨g1, g2⟩ := gcd_small (b := ps.getD j 0) hp.1 hp.2
  unfold plc
  exact place_ok g1 g2
def PlT (P R : D) (w : Nat → Nat → Int) (n : Nat) : Prop := ∀ (i j : Nat) (acc : List D), i < n → j < n → acc.length < 16777216 → plB [.dat P, .dat R, .own (.lst acc), .dat (.int i), .dat (.int j)] = some (.ok .nx, [.dat P, .dat R, .own (.lst (acc ++ [.int (w i j)])), .dat (.int i), .dat (.int j)])
theorem plt_ok {ps rs : List Nat} (hp : ∀ p ∈ ps, 0 < p ∧ p ≤ 1000) (hl : rs.length = ps.length) : PlT (.tup (ps.map natI)) (rowD rs) (plc ps rs) ps.length := fun i j acc hi hj ha =>
  pl_turn ha (ix_row (rs := rs) (i := i) (by omega)) (ix_row (rs := rs) (i := j) (by omega)) (ix_nat hi) (ix_nat hj) (div_ok _ _) (plc_ok rs j (getD_pos hp hi))
theorem pl_loop {P R : D} {w : Nat → Nat → Int} {n : Nat} (T : PlT P R w n) : ∀ (qs : List (Nat × Nat)) (acc : List D) (x3 x4 : Sl), (∀ q ∈ qs, q.1 < n ∧ q.2 < n) → acc.length + qs.length ≤ 1000 → ∃ y3 y4,
    loopF (gTupD 2 (gMore (gSet 3) (gMore (gSet 4) gNone))) plB (qs.map prD) [.dat P, .dat R, .own (.lst acc), x3, x4] = some (.ok .nx, [.dat P, .dat R, .own (.lst (acc ++ qs.map fun q => .int (w q.1 q.2))), y3, y4])
  | [], acc, x3, x4, hq, ha => ⟨x3, x4, by simp⟩
  | q :: qs, acc, x3, x4, hq, ha => by
    simp only [List.length_cons] at ha
    obtain ⟨q1, q2⟩ := hq q (by simp)
    have t := T q.1 q.2 acc q1 q2 (by omega)
    obtain ⟨y3, y4, ih⟩ := pl_loop T qs (acc ++ [.int (w q.1 q.2)]) (.dat (.int q.1)) (.dat (.int q.2)) (fun x hx => hq x (by simp [hx])) (by rw [List.length_append, List.length_singleton]; omega)
    refine ⟨y3, y4, ?_⟩
    have e : acc ++ (q :: qs).map (fun q => D.int (w q.1 q.2)) = acc ++ [.int (w q.1 q.2)] ++ qs.map fun q => .int (w q.1 q.2) := by simp
    rw [e, ← ih, List.map_cons, loopF_cons]
    have e2 : gTupD 2 (gMore (gSet 3) (gMore (gSet 4) gNone)) (prD q) [.dat P, .dat R, .own (.lst acc), x3, x4] = some (.ok (), [.dat P, .dat R, .own (.lst acc), .dat (.int q.1), .dat (.int q.2)]) := rfl
    rw [bnd_to e2, bnd_to t]
theorem lenF_pers (ps : List Nat) : lenF [.tup (ps.map natI)] = some (.dat (.int (ps.length : Nat))) := by rw [lenF_tup, List.length_map]
def placesD (ps rs : List Nat) : D := .tup ((places ps rs).map .int)
theorem pl_run {P R : D} {w : Nat → Nat → Int} {n : Nat} (T : PlT P R w n) (h5 : n ≤ 5) (e2 : lenF [P] = some (.dat (.int (n : Nat)))) : F_places_of [P, R] = some (.ok (.dat (.tup ((pairs n).map fun q => .int (w q.1 q.2))))) := by
  obtain ⟨y3, y4, e⟩ := pl_loop T (pairs n) [] .un .un (fun q hq => by have := pairs_lt hq; omega) (by have := pairs_len h5; simp; omega)
  have e1 := pairs_ok h5
  simp [F_places_of, runDef_ap, c_places_of, st0, bnd_ap, e1, -lenF_tup, e2]
  rw [e]
  simp [bnd_ap]
theorem placesD_is (ps rs : List Nat) : placesD ps rs = .tup ((pairs ps.length).map fun q => .int (plc ps rs q.1 q.2)) := by unfold placesD places; rw [List.map_map]; rfl
theorem places_ok {ps rs : List Nat} (hp : ∀ p ∈ ps, 0 < p ∧ p ≤ 1000) (h5 : ps.length ≤ 5) (hl : rs.length = ps.length) : F_places_of [.tup (ps.map natI), rowD rs] = some (.ok (.dat (placesD ps rs))) := by
  rw [placesD_is]
  exact pl_run (plt_ok hp hl) h5 (lenF_pers ps)
theorem pers_places {l : List (Nat × Int)} (b : BellsT l) {rs : List Nat} (h : RowP (perN l) rs) : F_places_of [.tup (persD l), rowD rs] = some (.ok (.dat (placesD (perN l) rs))) := places_ok (ps := perN l) (rs := rs) (per_pos b) (by rw [len_pers]; exact b.hi) h.len
theorem ix_bells {l : List (Nat × Int)} {i : Nat} (h : i < l.length) : ixD (bellsD l) (.int (i : Int)) = some (.dat (bellD l[i])) := by
  show (L2.atI (l.map bellD) (i : Int)).map Rf.dat = _
  rw [atI_nat, List.getElem?_map, List.getElem?_eq_getElem h]
  rfl
theorem ix_bell1 (q : Nat × Int) : ixD (bellD q) (.int 1) = some (.dat (.int q.2)) := rfl
theorem perN_at {l : List (Nat × Int)} (hp : ∀ q ∈ l, 1 ≤ q.2 ∧ q.2 ≤ 30) {i : Nat} (h : i < l.length) : ((l[i]).2 : Int) = (((perN l).getD i 0 : Nat) : Int) := by
  have := hp l[i] (List.getElem_mem h)
  unfold perN
  simp [List.getD, h]
  omega
theorem lenF_bells (l : List (Nat × Int)) : lenF [bellsD l] = some (.dat (.int (l.length : Nat))) := by
  show some (Rf.dat (.int ((l.map bellD).length : Nat))) = _
  rw [List.length_map]
end Law

namespace Law
open PySem DL G
/-! ### how often bells meet -/
def bitB (m : Nat) (k : Nat) : Bool := decide (Builtin.bitAnd ((m : Int) / 2 ^ k) 1 = 1)
def mem (n m : Nat) : List Nat := (List.range n).filter (bitB m)
theorem mem_lt {n m i : Nat} (h : i ∈ mem n m) : i < n := List.mem_range.mp (List.mem_filter.mp h).1
theorem mem_len (n m : Nat) : (mem n m).length ≤ n := by
  have := List.length_filter_le (bitB m) (List.range n)
  rwa [List.length_range] at this
def iN : D → Nat
  | .int i => i.toNat
  | _ => 0
theorem iN_nat (k : Nat) : iN (natI k) = k := Int.toNat_natCast k
theorem filt_nat (p : Nat → Bool) (ks : List Nat) : (ks.map natI).filter (fun d => p (iN d)) = (ks.filter p).map natI := by
  rw [List.filter_map]
  congr 1
theorem mem_loop (n m : Nat) (hn : n ≤ 1000) (x0 x1 x2 x3 x4 x6 x7 x8 x10 x11 : Sl) : loopL (gSet 9) (sB (sBin eqD (sBin andD (sBin shrD (sVar 5) (sVar 9)) (sK (.int 1))) (sK (.int 1)))) (cap (sVar 9)) [9] ((List.range n).map natI) [] [x0, x1, x2, x3, x4, .dat (.int m), x6, x7, x8, .un, x10, x11] =
    some (.ok ((mem n m).map natI), [x0, x1, x2, x3, x4, .dat (.int m), x6, x7, x8, .un, x10, x11]) := by
  have e := loopL_fmk (g := gSet 9) (ct := sB (sBin eqD (sBin andD (sBin shrD (sVar 5) (sVar 9)) (sK (.int 1))) (sK (.int 1)))) (ce := cap (sVar 9)) (vs := [9]) (Γ0 := [x0, x1, x2, x3, x4, .dat (.int m), x6, x7, x8, .un, x10, x11]) (p := fun d => bitB m (iN d)) (f := id) ((List.range n).map natI) [] (fun d hd => by
    obtain ⟨k, _, rfl⟩ := List.mem_map.mp hd
    exact ⟨[x0, x1, x2, x3, x4, .dat (.int m), x6, x7, x8, .dat (natI k), x10, x11], [x0, x1, x2, x3, x4, .dat (.int m), x6, x7, x8, .dat (natI k), x10, x11], rfl, by rw [iN_nat]; simp [bnd_ap, natI, bitB], fun _ => rfl, fun _ => ⟨_, rfl, rfl⟩⟩) (by rw [List.length_map, List.length_range, List.length_nil]; omega)
  rw [e, filt_nat (bitB m), List.map_id]
  rfl
theorem commonL_ok {ps : List Nat} (hp : ∀ p ∈ ps, 0 < p ∧ p ≤ 1000) : F_common_multiple [.lst (ps.map natI)] = some (.ok (.dat (.int (lcmL 1 ps)))) := by
  obtain ⟨y', z', w', e⟩ := cm_loop ps 1 (.dat (.lst (ps.map natI))) .un .un .un (by decide) hp
  simp [F_common_multiple, runDef_ap, c_common_multiple, st0, bnd_ap]
  rw [show (1 : Int) = ((1 : Nat) : Int) from rfl, e]
  simp [bnd_ap]
theorem lcmL_pos : ∀ (ps : List Nat) (f : Nat), 0 < f → (∀ p ∈ ps, 0 < p ∧ p ≤ 1000) → 0 < lcmL f ps
  | [], f, hf, _ => hf
  | p :: ps, f, hf, h => by
    rw [lcmL_cons]
    exact lcmL_pos ps _ (lcm_pos hf (h p (by simp)).1) fun q hq => h q (by simp [hq])
theorem lcm_bound {ps : List Nat} (h : ∀ p ∈ ps, 0 < p ∧ p ≤ 1000) (hl : ps.length ≤ 5) : lcmL 1 ps < 10000000000000000 := by
  have h1 := lcm_le ps 1 h
  have h2 : 1000 ^ ps.length ≤ 1000 ^ 5 := Nat.pow_le_pow_right (by decide) hl
  have h3 : (1000 : Nat) ^ 5 = 1000000000000000 := by decide
  omega
/-- which pairs meet -/
noncomputable abbrev alC : M Rf := (sCB allF (oCons (sLc2 [10, 11] [11] (sIter (sVar 6)) (gSet 10) (DL.ret true) (sIter (sVar 6)) (gSet 11) (sB (sBin ltD (sVar 10) (sVar 11))) (sBin getD2 (sVar 3) (sTup (sCons (cap (sVar 10)) (sCons (cap (sVar 11)) sNil))))) oNil))
def prsB (ev : Nat → Nat → Bool) (ms : List Nat) : List Bool := ms.flatMap fun i => (ms.filter fun j => decide (i < j)).map fun j => ev i j
theorem al_inner {E : D} {ev : Nat → Nat → Bool} {ms : List Nat} (hl : ms.length ≤ 100) {i : Nat} (he : ∀ j ∈ ms, i < j → getD2 E (prD (i, j)) = some (.dat (.bl (ev i j)))) (x0 x1 x2 x4 x5 x6 x7 x8 x9 : Sl) (acc : List D) (ha : acc.length ≤ 900000) :
    loopL (gSet 11) (sB (sBin ltD (sVar 10) (sVar 11))) (cap (sBin getD2 (sVar 3) (sTup (sCons (cap (sVar 10)) (sCons (cap (sVar 11)) sNil))))) [11] (ms.map natI) acc [x0, x1, x2, .own E, x4, x5, x6, x7, x8, x9, .dat (natI i), .un] = some (.ok (acc ++ ((ms.filter fun j => decide (i < j)).map fun j => D.bl (ev i j))), [x0, x1, x2, .own E, x4, x5, x6, x7, x8, x9, .dat (natI i), .un]) := by
  have e := loopL_fmk (g := gSet 11) (ct := sB (sBin ltD (sVar 10) (sVar 11))) (ce := cap (sBin getD2 (sVar 3) (sTup (sCons (cap (sVar 10)) (sCons (cap (sVar 11)) sNil))))) (vs := [11]) (Γ0 := [x0, x1, x2, .own E, x4, x5, x6, x7, x8, x9, .dat (natI i), .un]) (p := fun d => decide (i < iN d)) (f := fun d => .bl (ev i (iN d))) (ms.map natI) acc (fun d hd => by
    obtain ⟨k, hk, rfl⟩ := List.mem_map.mp hd
    refine ⟨[x0, x1, x2, .own E, x4, x5, x6, x7, x8, x9, .dat (natI i), .dat (natI k)], [x0, x1, x2, .own E, x4, x5, x6, x7, x8, x9, .dat (natI i), .dat (natI k)], rfl, by rw [iN_nat]; simp [bnd_ap, natI], fun _ => rfl, fun hp => ⟨[x0, x1, x2, .own E, x4, x5, x6, x7, x8, x9, .dat (natI i), .dat (natI k)], ?_, rfl⟩⟩
    rw [iN_nat] at hp ⊢
    have h := he k hk (of_decide_eq_true hp)
    have h' : getD2 E (.tup [natI i, natI k]) = some (.dat (.bl (ev i k))) := h
    simp [bnd_ap, mkTup_ok, h']) (by rw [List.length_map]; omega)
  rw [e, filt_nat (fun k => decide (i < k)), List.map_map]
  congr 5
theorem al_ok {E : D} {ev : Nat → Nat → Bool} {ms : List Nat} (hl : ms.length ≤ 100) (he : ∀ i ∈ ms, ∀ j ∈ ms, i < j → getD2 E (prD (i, j)) = some (.dat (.bl (ev i j)))) (x0 x1 x2 x4 x5 x7 x8 x9 : Sl) :
    alC [x0, x1, x2, .own E, x4, x5, .own (.lst (ms.map natI)), x7, x8, x9, .un, .un] = some (.ok (.dat (.bl ((prsB ev ms).all id))), [x0, x1, x2, .own E, x4, x5, .dat (.lst (ms.map natI)), x7, x8, x9, .un, .un]) := by
  have e := loopL2_fm (g := gSet 10) (ct := DL.ret true) (ci1 := sIter (sVar 6)) (g1 := gSet 11) (ct1 := sB (sBin ltD (sVar 10) (sVar 11))) (ce := cap (sBin getD2 (sVar 3) (sTup (sCons (cap (sVar 10)) (sCons (cap (sVar 11)) sNil))))) (vs := [10, 11]) (vs1 := [11]) (Γ0 := [x0, x1, x2, .own E, x4, x5, .dat (.lst (ms.map natI)), x7, x8, x9, .un, .un]) (f := fun d => (ms.filter fun j => decide (iN d < j)).map fun j => .bl (ev (iN d) j)) (ms.map natI) [] (fun d hd => by
      rw [List.length_map]
      exact Nat.le_trans (List.length_filter_le _ _) (by omega)) (fun d hd => by
      obtain ⟨i, hi, rfl⟩ := List.mem_map.mp hd
      refine ⟨[x0, x1, x2, .own E, x4, x5, .dat (.lst (ms.map natI)), x7, x8, x9, .dat (natI i), .un], [x0, x1, x2, .own E, x4, x5, .dat (.lst (ms.map natI)), x7, x8, x9, .dat (natI i), .un], ms.map natI, [x0, x1, x2, .own E, x4, x5, .dat (.lst (ms.map natI)), x7, x8, x9, .dat (natI i), .un], rfl, rfl, rfl, fun acc ha => ⟨[x0, x1, x2, .own E, x4, x5, .dat (.lst (ms.map natI)), x7, x8, x9, .dat (natI i), .un], ?_, rfl⟩⟩
      rw [iN_nat]
      exact al_inner hl (fun j hj h => he i hi j hj h) x0 x1 x2 x4 x5 (.dat (.lst (ms.map natI))) x7 x8 x9 acc ha) (by rw [List.length_map, List.length_nil]; omega)
  have e2 : ([] : List D) ++ (ms.map natI).flatMap (fun d => (ms.filter fun j => decide (iN d < j)).map fun j => D.bl (ev (iN d) j)) = (prsB ev ms).map .bl := by
    unfold prsB
    rw [List.nil_append, List.flatMap_map, List.map_flatMap]
    congr 1
    funext i
    rw [iN_nat, List.map_map]; rfl
  rw [e2] at e
  have e3 := allF_bls (prsB ev ms)
  generalize (prsB ev ms).map D.bl = L at *
  generalize (prsB ev ms).all id = A at *
  generalize ms.map natI = M at *
  simp [bnd_ap, e, e3]
def evB (pl : List Int) (n i j : Nat) : Bool := match lkD ((pairs n).map prD) (pl.map fun w => .bl (decide (w % 2 = 0))) (prD (i, j)) with
  | some (.bl b) => b
  | _ => false
theorem kE_pr (p q : Nat × Nat) : kE (prD p) (prD q) = decide (p = q) := by
  obtain ⟨a, b⟩ := p
  obtain ⟨c, d⟩ := q
  show (decide ((a : Int) = (c : Int)) && (decide ((b : Int) = (d : Int)) && true)) = _
  by_cases h1 : a = c <;> by_cases h2 : b = d <;> simp [h1, h2, Int.ofNat_inj]
theorem lk_some (f : Int → Bool) : ∀ (ps : List (Nat × Nat)) (pl : List Int) (p : Nat × Nat), p ∈ ps → ps.length ≤ pl.length → ∃ w, lkD (ps.map prD) (pl.map fun w => .bl (f w)) (prD p) = some (.bl w)
  | [], _, _, h, _ => by cases h
  | q :: ps, [], _, _, h => by simp at h
  | q :: ps, w :: pl, p, h, hl => by
    show ∃ v, (if kE (prD q) (prD p) then some (D.bl (f w)) else lkD (ps.map prD) (pl.map fun w => .bl (f w)) (prD p)) = some (.bl v)
    rw [kE_pr]
    by_cases e : q = p
    · exact ⟨f w, by rw [decide_eq_true e]; rfl⟩
    · rw [decide_eq_false e, if_neg (by simp)]
      refine lk_some f ps pl p ?_ (by simpa using hl)
      rcases List.mem_cons.mp h with rfl | h
      · exact absurd rfl e
      · exact h
def evD (pl : List Int) (n : Nat) : D := .dic ((pairs n).map prD) (pl.map fun w => .bl (decide (w % 2 = 0)))
theorem ev_get {pl : List Int} {n i j : Nat} (h : i < j) (g : j < n) (hl : pl.length = (pairs n).length) : getD2 (evD pl n) (prD (i, j)) = some (.dat (.bl (evB pl n i j))) := by
  have hm := pairs_mem h g
  obtain ⟨w, e⟩ := lk_some (fun w => decide (w % 2 = 0)) (pairs n) pl (i, j) hm (by omega)
  have ok : okGet ((pairs n).map prD) (prD (i, j)) = true := by
    unfold okGet
    have a1 : ((pairs n).map prD).isEmpty = false := by
      cases hp : pairs n with
      | nil => rw [hp] at hm; cases hm
      | cons => rfl
    have a2 : ((pairs n).map prD).all tupK = true := List.all_eq_true.mpr fun d hd => by
      obtain ⟨p, _, rfl⟩ := List.mem_map.mp hd
      rfl
    rw [a1, a2, show tupK (prD (i, j)) = true from rfl]; simp
  show (if okGet ((pairs n).map prD) (prD (i, j)) then (lkD ((pairs n).map prD) (pl.map fun w => .bl (decide (w % 2 = 0))) (prD (i, j))).map Rf.dat else none) = _
  rw [if_pos ok, e]
  unfold evB
  rw [e]
  rfl
theorem pw_pairs {n : Nat} (h : n ≤ 5) : ((pairs n).map prD).Pairwise fun a b => kE a b = false := by
  rw [List.pairwise_map]
  have : (pairs n).Pairwise fun a b => a ≠ b := by rcases upto5 h with rfl | rfl | rfl | rfl | rfl | rfl <;> decide
  exact this.imp fun {a b} z => by rw [kE_pr, decide_eq_false z]
def pwD (p : (Nat × Nat) × Int) : D := .tup [prD p.1, .int p.2]
def evV : D → D
  | .tup [_, .int w] => .bl (decide (w % 2 = 0))
  | d => d
theorem zip_pw : ∀ (ps : List (Nat × Nat)) (pl : List Int), zipD2 (ps.map prD) (pl.map .int) = (ps.zip pl).map pwD
  | [], _ => by simp [zipD2]
  | _ :: _, [] => by simp [zipD2]
  | p :: ps, w :: pl => by
    have ih := zip_pw ps pl
    unfold zipD2 at *
    rw [List.map_cons, List.map_cons, List.zipWith_cons_cons, ih, List.zip_cons_cons, List.map_cons]
    rfl
theorem zip_k {ps : List (Nat × Nat)} {pl : List Int} (h : pl.length = ps.length) : ((ps.zip pl).map pwD).map fstD = ps.map prD := by
  rw [List.map_map]
  have : fstD ∘ pwD = prD ∘ Prod.fst := rfl
  rw [this, ← List.map_map, List.map_fst_zip (by omega)]
theorem zip_v {ps : List (Nat × Nat)} {pl : List Int} (h : pl.length = ps.length) : ((ps.zip pl).map pwD).map evV = pl.map fun w => .bl (decide (w % 2 = 0)) := by
  rw [List.map_map]
  have : evV ∘ pwD = (fun w => D.bl (decide (w % 2 = 0))) ∘ Prod.snd := rfl
  rw [this, ← List.map_map, List.map_snd_zip (by omega)]
theorem ev_loop {n : Nat} {pl : List Int} (h5 : n ≤ 5) (hl : pl.length = (pairs n).length) (x0 x1 x2 x3 x4 x5 x6 x9 x10 x11 : Sl) : loopDc (gTupD 2 (gMore (gSet 7) (gMore (gSet 8) gNone))) (DL.ret true) (cap (sVar 7)) (cap (sBin eqD (sBin modD (sVar 8) (sK (.int 2))) (sK (.int 0)))) [7, 8] (zipD2 ((pairs n).map prD) (pl.map .int)) [] [] [x0, x1, x2, x3, x4, x5, x6, .un, .un, x9, x10, x11] =
    some (.ok ((pairs n).map prD, pl.map fun w => .bl (decide (w % 2 = 0))), [x0, x1, x2, x3, x4, x5, x6, .un, .un, x9, x10, x11]) := by
  have e := loopDc_new (g := gTupD 2 (gMore (gSet 7) (gMore (gSet 8) gNone))) (ck := cap (sVar 7)) (cv := cap (sBin eqD (sBin modD (sVar 8) (sK (.int 2))) (sK (.int 0)))) (vs := [7, 8]) (Γ0 := [x0, x1, x2, x3, x4, x5, x6, .un, .un, x9, x10, x11]) (fk := fstD) (fv := evV) (K := tupK) okPut_tup (((pairs n).zip pl).map pwD) [] [] (fun d hd => by
    obtain ⟨⟨p, w⟩, _, rfl⟩ := List.mem_map.mp hd
    exact ⟨[x0, x1, x2, x3, x4, x5, x6, .dat (prD p), .dat (.int w), x9, x10, x11], [x0, x1, x2, x3, x4, x5, x6, .dat (prD p), .dat (.int w), x9, x10, x11], [x0, x1, x2, x3, x4, x5, x6, .dat (prD p), .dat (.int w), x9, x10, x11], rfl, rfl, by simp [bnd_ap, evV, pwD], rfl⟩) (fun d hd => by
    obtain ⟨⟨p, w⟩, _, rfl⟩ := List.mem_map.mp hd
    rfl) rfl (by rw [List.nil_append, zip_k hl]; exact pw_pairs h5) (by
    have := pairs_len h5
    rw [List.length_map, List.length_zip, List.length_nil]; omega)
  rw [zip_pw, e, zip_k hl, zip_v hl]
  rfl
/-! ### the numbers of a round -/
noncomputable abbrev mtB : M Fl := (sSeq (sSet 6 (sLc [9] (sRng range1 (sCons (cap (sCB lenF (oCons (sVar 2) oNil))) sNil)) (gSet 9) (sB (sBin eqD (sBin andD (sBin shrD (sVar 5) (sVar 9)) (sK (.int 1))) (sK (.int 1)))) (sVar 9)))
 (sIf (sB alC)
 (sDrop (sMut isLst appendM (sVar 4) (sCons (cap (sBin divD (sProp k_Tower F_Tower_full_round (sVar 0)) (sCallF (argN 1 F_common_multiple) (sCons (cap (sLc [9] (sIter (sVar 6)) (gSet 9) (DL.ret true) (sBin ixD (sVar 2) (sVar 9)))) sNil)))) sNil)))
 (sDrop (sMut isLst appendM (sVar 4) (sCons (cap (sK (.int 0))) sNil)))))
def mtV (ev : Nat → Nat → Bool) (ms : List Nat) (rd lc : Int) : Int := if (prsB ev ms).all id then rd / lc else 0
theorem mt_turn {tw Pd E : D} {pl' : Sl} {F : List D} {n m : Nat} {ev : Nat → Nat → Bool} {per : Nat → Nat} {rd lc : Int} (hn : n ≤ 5) (hF : F.length ≤ 1000) (hlen : lenF [Pd] = some (.dat (.int (n : Nat)))) (he : ∀ i j, i < j → j < n → getD2 E (prD (i, j)) = some (.dat (.bl (ev i j)))) (hi : isInsB k_Tower "" tw = true) (hr : F_Tower_full_round [tw] = some (.ok (.dat (.int rd))))
    (hp : ∀ i : Nat, i < n → ixD Pd (.int (i : Nat)) = some (.dat (natI (per i)))) (hc : F_common_multiple [.lst ((mem n m).map fun i => natI (per i))] = some (.ok (.dat (.int lc)))) (l0 : 0 < lc) (l1 : lc < 18446744073709551616) (x6 : Sl) :
    mtB [.dat tw, pl', .dat Pd, .own E, .own (.lst F), .dat (.int m), x6, .un, .un, .un, .un, .un] = some (.ok .nx, [.dat tw, pl', .dat Pd, .own E, .own (.lst (F ++ [.int (mtV ev (mem n m) rd lc)])), .dat (.int m), .dat (.lst ((mem n m).map natI)), .un, .un, .un, .un, .un]) := by
  have e1 := mem_loop n m (by omega) (.dat tw) pl' (.dat Pd) (.own E) (.own (.lst F)) x6 .un .un .un .un
  have e2 := range1_n (n := n) (by omega)
  refine sSeq_to (Γ' := [.dat tw, pl', .dat Pd, .own E, .own (.lst F), .dat (.int m), .own (.lst ((mem n m).map natI)), .un, .un, .un, .un, .un]) (by simp [bnd_ap, hlen, e2, e1]) ?_
  have hm := mem_len n m
  have e3 := al_ok (E := E) (ev := ev) (ms := mem n m) (by omega) (fun i hi j hj h => he i j h (mem_lt hj)) (.dat tw) pl' (.dat Pd) (.own (.lst F)) (.dat (.int m)) .un .un .un
  have e4 : sB alC [.dat tw, pl', .dat Pd, .own E, .own (.lst F), .dat (.int m), .own (.lst ((mem n m).map natI)), .un, .un, .un, .un, .un] = some (.ok ((prsB ev (mem n m)).all id), [.dat tw, pl', .dat Pd, .own E, .own (.lst F), .dat (.int m), .dat (.lst ((mem n m).map natI)), .un, .un, .un, .un, .un]) := by
    rw [sB_ap, bnd_to e3]; rfl
  rw [sIf_ap, bnd_to e4]
  have e5 := loopL_map (g := gSet 9) (ce := cap (sBin ixD (sVar 2) (sVar 9))) (vs := [9]) (Γ0 := [.dat tw, pl', .dat Pd, .own E, .own (.lst F), .dat (.int m), .dat (.lst ((mem n m).map natI)), .un, .un, .un, .un, .un]) (f := fun d => natI (per (iN d))) ((mem n m).map natI) (fun d hd => by
    obtain ⟨k, hk, rfl⟩ := List.mem_map.mp hd
    refine ⟨[.dat tw, pl', .dat Pd, .own E, .own (.lst F), .dat (.int m), .dat (.lst ((mem n m).map natI)), .un, .un, .dat (natI k), .un, .un], [.dat tw, pl', .dat Pd, .own E, .own (.lst F), .dat (.int m), .dat (.lst ((mem n m).map natI)), .un, .un, .dat (natI k), .un, .un], rfl, ?_, rfl⟩
    rw [iN_nat]
    have h : ixD Pd (natI k) = some (.dat (natI (per k))) := hp k (mem_lt hk)
    simp [bnd_ap, h]) (by rw [List.length_map]; omega)
  have e6 : ((mem n m).map natI).map (fun d => natI (per (iN d))) = (mem n m).map fun i => natI (per i) := by
    rw [List.map_map]
    exact List.map_congr_left fun i _ => by show natI (per (iN (natI i))) = _; rw [iN_nat]
  rw [e6] at e5
  unfold mtV
  generalize (prsB ev (mem n m)).all id = A at *
  generalize (mem n m).map natI = M at *
  generalize (mem n m).map (fun i => natI (per i)) = Q at *
  have hF' : F.length < 16777216 := by omega
  cases A with
  | true => simp [bnd_ap, hi, hr, e5, hc, l0, l1, hF']
  | false => simp [bnd_ap, hF']
theorem mt_loop {tw Pd E : D} {pl' : Sl} {mv : Nat → Int} {ys : Nat → Sl} : ∀ (ks : List Nat) (F : List D) (x5 x6 : Sl), (∀ m ∈ ks, ∀ (F : List D) (x6 : Sl), F.length ≤ 1000 → mtB [.dat tw, pl', .dat Pd, .own E, .own (.lst F), .dat (.int m), x6, .un, .un, .un, .un, .un] = some (.ok .nx, [.dat tw, pl', .dat Pd, .own E, .own (.lst (F ++ [.int (mv m)])), .dat (.int m), ys m, .un, .un, .un, .un, .un])) → F.length + ks.length ≤ 1000 →
    ∃ y5 y6, loopF (gSet 5) mtB (ks.map natI) [.dat tw, pl', .dat Pd, .own E, .own (.lst F), x5, x6, .un, .un, .un, .un, .un] = some (.ok .nx, [.dat tw, pl', .dat Pd, .own E, .own (.lst (F ++ ks.map fun m => .int (mv m))), y5, y6, .un, .un, .un, .un, .un])
  | [], F, x5, x6, h, hl => ⟨x5, x6, by simp⟩
  | m :: ks, F, x5, x6, h, hl => by
    simp only [List.length_cons] at hl
    have t := h m (by simp) F x6 (by omega)
    obtain ⟨y5, y6, ih⟩ := mt_loop (ys := ys) (mv := mv) ks (F ++ [.int (mv m)]) (.dat (.int m)) (ys m) (fun k hk => h k (by simp [hk])) (by rw [List.length_append, List.length_singleton]; omega)
    refine ⟨y5, y6, ?_⟩
    have e : F ++ (m :: ks).map (fun m => D.int (mv m)) = F ++ [.int (mv m)] ++ ks.map fun m => .int (mv m) := by simp
    rw [e, ← ih, List.map_cons, loopF_cons]
    have e2 : gSet 5 (natI m) [.dat tw, pl', .dat Pd, .own E, .own (.lst F), x5, x6, .un, .un, .un, .un, .un] = some (.ok (), [.dat tw, pl', .dat Pd, .own E, .own (.lst F), .dat (.int m), x6, .un, .un, .un, .un, .un]) := rfl
    rw [bnd_to e2, bnd_to t]
def bitsL (n : Nat) : List Nat := (List.range (2 ^ n - 1)).map (1 + ·)
theorem pow_le {n : Nat} (h : n ≤ 5) : 2 ^ n ≤ 32 ∧ 1 ≤ 2 ^ n := ⟨Nat.pow_le_pow_right (by decide) h, Nat.one_le_two_pow⟩
theorem bits_len {n : Nat} (h : n ≤ 5) : (bitsL n).length = 2 ^ n - 1 ∧ (bitsL n).length ≤ 31 := by
  unfold bitsL
  rw [List.length_map, List.length_range]
  have := pow_le h
  omega
theorem shl_n (n : Nat) (h : n ≤ 5) : shlD (.int 1) (.int (n : Nat)) = some (.dat (.int ((2 ^ n : Nat) : Int))) := by
  show (if _ then _ else _) = _
  rw [if_pos ⟨by omega, by omega, by decide⟩, Int.one_mul, Int.toNat_natCast, Int.natCast_pow]; rfl
theorem meeting_run {tw Pd : D} {n : Nat} {pl : List Int} {mv : Nat → Int} {ys : Nat → Sl} (hn : n ≤ 5) (hl : pl.length = (pairs n).length) (hi : isInsB k_Tower "" tw = true) (hper : F_Tower_periods [tw] = some (.ok (.dat Pd))) (hlen : lenF [Pd] = some (.dat (.int (n : Nat))))
    (h : ∀ m ∈ bitsL n, ∀ (F : List D) (x6 : Sl), F.length ≤ 1000 → mtB [.dat tw, .dat (.tup (pl.map .int)), .dat Pd, .own (evD pl n), .own (.lst F), .dat (.int m), x6, .un, .un, .un, .un, .un] = some (.ok .nx, [.dat tw, .dat (.tup (pl.map .int)), .dat Pd, .own (evD pl n), .own (.lst (F ++ [.int (mv m)])), .dat (.int m), ys m, .un, .un, .un, .un, .un])) :
    F_meeting_counts [tw, .tup (pl.map .int)] = some (.ok (.own (.lst (.int 0 :: (bitsL n).map fun m => .int (mv m))))) := by
  obtain ⟨y5, y6, e⟩ := mt_loop (bitsL n) [.int 0] .un .un h (by have := (bits_len hn).2; simp; omega)
  have e1 := pairs_ok hn
  have e2 : zipA2 [.lst ((pairs n).map prD), .tup (pl.map .int)] = some (zipD2 ((pairs n).map prD) (pl.map .int)) := rfl
  have e3 := ev_loop hn hl (.dat tw) (.dat (.tup (pl.map .int))) (.dat Pd) .un .un .un .un .un .un .un
  have e4 := range2_n (a := 1) (b := 2 ^ n) (by omega) (by have := pow_le hn; omega)
  have e5 := shl_n n hn
  have e6 : evD pl n = .dic ((pairs n).map prD) (pl.map fun w => .bl (decide (w % 2 = 0))) := rfl
  rw [e6] at e
  generalize zipD2 ((pairs n).map prD) (pl.map .int) = Z at *
  generalize (pairs n).map prD = KS at *
  generalize (pl.map fun w => D.bl (decide (w % 2 = 0))) = VS at *
  generalize pl.map D.int = PL at *
  refine runDef_to (f := .rt (.slot 4)) (Γ := [.dat tw, .dat (.tup PL), .un, .un, .un, .un, .un, .un, .un, .un, .un, .un]) (Γ' := [.dat tw, .dat (.tup PL), .dat Pd, .own (.dic KS VS), .own (.lst (.int 0 :: (bitsL n).map fun m => .int (mv m))), y5, y6, .un, .un, .un, .un, .un]) rfl ?_ rfl
  refine sSeq_to (Γ' := [.dat tw, .dat (.tup PL), .dat Pd, .un, .un, .un, .un, .un, .un, .un, .un, .un]) (by simp [bnd_ap, hi, hper]) ?_
  refine sSeq_to (Γ' := [.dat tw, .dat (.tup PL), .dat Pd, .own (.dic KS VS), .un, .un, .un, .un, .un, .un, .un, .un]) (by simp [bnd_ap, hlen, e1, e2, e3]) ?_
  refine sSeq_to (Γ' := [.dat tw, .dat (.tup PL), .dat Pd, .own (.dic KS VS), .own (.lst [.int 0]), .un, .un, .un, .un, .un, .un, .un]) (by simp [bnd_ap, mkLst_ok]) ?_
  refine sSeq_to (Γ' := [.dat tw, .dat (.tup PL), .dat Pd, .own (.dic KS VS), .own (.lst (.int 0 :: (bitsL n).map fun m => .int (mv m))), y5, y6, .un, .un, .un, .un, .un]) ?_ (by simp [bnd_ap])
  rw [sFor_ap, bnd_to (Γ' := [.dat tw, .dat (.tup PL), .dat Pd, .own (.dic KS VS), .own (.lst [.int 0]), .un, .un, .un, .un, .un, .un, .un]) (a := (bitsL n).map natI) (by
    have e4' : range2 [.int 1, .int ((2 ^ n : Nat) : Int)] = some ((bitsL n).map natI) := e4
    generalize ((2 ^ n : Nat) : Int) = N at *
    simp [bnd_ap, hlen, e5, -shlD_int, e4'])]
  exact e
end Law

namespace Law
open PySem DL G
/-! ### bits counted -/
theorem bc_loop : ∀ (k : Nat) (x f : Int), x.toNat = k → ∃ x' f' : Int, sWhile (sB (sBin gtD (sVar 0) (sK (.int 0)))) (sSeq (sSet 1 (sBin addD (sVar 1) (sBin andD (sVar 0) (sK (.int 1))))) (sSet 0 (sBin shrD (sVar 0) (sK (.int 1))))) [.dat (.int x), .dat (.int f)] = some (.ok .nx, [.dat (.int x'), .dat (.int f')]) := by
  intro k
  induction k using Nat.strongRecOn with
  | _ k ih =>
    intro x f hk
    by_cases hx : 0 < x
    · obtain ⟨x', f', e⟩ := ih (x / 2 ^ 1).toNat (by omega) (x / 2 ^ 1) (f + Builtin.bitAnd x 1) rfl
      refine ⟨x', f', ?_⟩
      rw [← e]
      refine sWhile_step (Γ1 := [.dat (.int x), .dat (.int f)]) (f := .nx) (by simp [bnd_ap, hx]) ?_ (.inl rfl)
      have h1 : shrD (.int x) (.int 1) = some (.dat (.int (x / 2 ^ 1))) := rfl
      simp [bnd_ap, h1, -shrD_int]
    · exact ⟨x, f, sWhile_stop (by simp [bnd_ap, hx])⟩
noncomputable def bcN (x : Int) : Int := match F_bit_count_of [.int x] with
  | some (.ok (.dat (.int c))) => c
  | _ => 0
theorem bc_ok (x : Int) : F_bit_count_of [.int x] = some (.ok (.dat (.int (bcN x)))) := by
  have h : ∃ c : Int, F_bit_count_of [.int x] = some (.ok (.dat (.int c))) := by
    obtain ⟨x', f', e⟩ := bc_loop x.toNat x 0 rfl
    refine ⟨f', ?_⟩
    refine runDef_to (f := .rt (.dat (.int f'))) (Γ := [.dat (.int x), .un]) (Γ' := [.dat (.int x'), .dat (.int f')]) rfl ?_ rfl
    refine sSeq_to (Γ' := [.dat (.int x), .dat (.int 0)]) (by simp [bnd_ap]) ?_
    exact sSeq_to e (by simp [bnd_ap])
  obtain ⟨c, h⟩ := h
  unfold bcN
  rw [h]
/-! ### chimes of a round: the inner loop -/
noncomputable abbrev ciB : M Fl := (sIf (sB (sBin eqD (sBin andD (sVar 7) (sVar 5)) (sVar 5)))
 (sSet 6 (sBin addD (sVar 6) (sIfE (sB (sBin eqD (sBin modD (sCallF (argN 1 F_bit_count_of) (sCons (cap (sBin xorD (sVar 7) (sVar 5))) sNil)) (sK (.int 2))) (sK (.int 0)))) (sBin ixD (sVar 2) (sVar 7)) (sBin subD (sK (.int 0)) (sBin ixD (sVar 2) (sVar 7))))))
 sSkip)
def exS (b : Int) (t : Nat → Int) (m : Nat) (e : Int) (k : Nat) : Int := if Builtin.bitAnd (k : Int) (m : Int) = (m : Int) then e + (if b % 2 = 0 then t k else 0 - t k) else e
theorem ci_turn {T : D} {m k : Nat} {e b : Int} {t : Nat → Int} (hb : F_bit_count_of [.int (Builtin.bitXor (k : Int) (m : Int))] = some (.ok (.dat (.int b)))) (ht : ixD T (.int (k : Nat)) = some (.dat (.int (t k)))) (x0 x1 x3 x4 x8 x9 x10 : Sl) :
    ciB [x0, x1, .own T, x3, x4, .dat (.int m), .dat (.int e), .dat (.int k), x8, x9, x10] = some (.ok .nx, [x0, x1, .own T, x3, x4, .dat (.int m), .dat (.int (exS b t m e k)), .dat (.int k), x8, x9, x10]) := by
  unfold exS
  by_cases h : Builtin.bitAnd (k : Int) (m : Int) = (m : Int)
  · by_cases g : b % 2 = 0
    · simp [bnd_ap, h, hb, ht, g]
    · simp [bnd_ap, h, hb, ht, g]
  · simp [bnd_ap, h]
noncomputable def exT (t : Nat → Int) (m : Nat) (e : Int) (k : Nat) : Int := exS (bcN (Builtin.bitXor (k : Int) (m : Int))) t m e k
theorem ci_loop {T : D} {m : Nat} {t : Nat → Int} (x0 x1 x3 x4 x8 x9 x10 : Sl) : ∀ (ks : List Nat) (e : Int) (x7 : Sl), (∀ k ∈ ks, ixD T (.int (k : Nat)) = some (.dat (.int (t k)))) → ∃ y7,
    loopF (gSet 7) ciB (ks.map natI) [x0, x1, .own T, x3, x4, .dat (.int m), .dat (.int e), x7, x8, x9, x10] = some (.ok .nx, [x0, x1, .own T, x3, x4, .dat (.int m), .dat (.int (ks.foldl (exT t m) e)), y7, x8, x9, x10])
  | [], e, x7, h => ⟨x7, rfl⟩
  | k :: ks, e, x7, h => by
    have tt := ci_turn (T := T) (m := m) (k := k) (e := e) (t := t) (bc_ok _) (h k (by simp)) x0 x1 x3 x4 x8 x9 x10
    obtain ⟨y7, ih⟩ := ci_loop (T := T) (m := m) (t := t) x0 x1 x3 x4 x8 x9 x10 ks (exT t m e k) (.dat (.int k)) fun j hj => h j (by simp [hj])
    refine ⟨y7, ?_⟩
    rw [List.foldl_cons, ← ih, List.map_cons, loopF_cons]
    have e2 : gSet 7 (natI k) [x0, x1, .own T, x3, x4, .dat (.int m), .dat (.int e), x7, x8, x9, x10] = some (.ok (), [x0, x1, .own T, x3, x4, .dat (.int m), .dat (.int e), .dat (.int k), x8, x9, x10]) := rfl
    rw [bnd_to e2, bnd_to tt]
    rfl
/-! ### the dict of texts -/
def kS (ss : List (Str × Int)) : List D := ss.map fun p => .str p.1
def vS (ss : List (Str × Int)) : List D := ss.map fun p => .int p.2
def putS (ss : List (Str × Int)) (c : Str) (e : Int) : List (Str × Int) := if ss.any (fun p => decide (p.1 = c)) then ss.map (fun p => if p.1 = c then (p.1, e) else p) else ss ++ [(c, e)]
theorem kE_str (a b : Str) : kE (.str a) (.str b) = decide (a = b) := rfl
theorem has_kS (ss : List (Str × Int)) (c : Str) : hasD (kS ss) (.str c) = ss.any fun p => decide (p.1 = c) := by
  unfold hasD kS
  rw [List.any_map]; rfl
theorem repl_S : ∀ (ss : List (Str × Int)) (c : Str) (e : Int), replV (kS ss) (vS ss) (.str c) (.int e) = vS (ss.map fun p => if p.1 = c then (p.1, e) else p)
  | [], c, e => rfl
  | p :: ss, c, e => by
    show (if kE (.str p.1) (.str c) then D.int e else .int p.2) :: replV (kS ss) (vS ss) (.str c) (.int e) = D.int (if p.1 = c then (p.1, e) else p).2 :: vS (ss.map fun p => if p.1 = c then (p.1, e) else p)
    rw [repl_S ss c e, kE_str]
    by_cases h : p.1 = c <;> simp [h]
theorem all_kS (ss : List (Str × Int)) : (kS ss).all isStrD = true := List.all_eq_true.mpr fun d hd => by
  obtain ⟨p, _, rfl⟩ := List.mem_map.mp hd
  rfl
theorem atom_kS (ss : List (Str × Int)) : (kS ss).all atomK = true := List.all_eq_true.mpr fun d hd => by
  obtain ⟨p, _, rfl⟩ := List.mem_map.mp hd
  rfl
theorem pt_S (ss : List (Str × Int)) (c : Str) (e : Int) : ptK (kS ss) (.str c) = kS (putS ss c e) ∧ ptV (kS ss) (vS ss) (.str c) (.int e) = vS (putS ss c e) := by
  unfold ptK ptV putS
  rw [has_kS]
  by_cases h : (ss.any fun p => decide (p.1 = c)) = true
  · rw [if_pos h, if_pos h, if_pos h]
    refine ⟨?_, repl_S ss c e⟩
    unfold kS
    rw [List.map_map]
    exact List.map_congr_left fun p _ => by
      show D.str p.1 = D.str (if p.1 = c then (p.1, e) else p).1
      by_cases g : p.1 = c <;> simp [g]
  · rw [if_neg h, if_neg h, if_neg h]
    exact ⟨by simp [kS], by simp [vS]⟩
theorem put_S {ss : List (Str × Int)} (c : Str) (e : Int) (h : ss.length ≤ 1000) : putDM (.dic (kS ss) (vS ss)) [.str c, .int e] = some (.ok (.dat .non), .dic (kS (putS ss c e)) (vS (putS ss c e))) := by
  obtain ⟨h1, h2⟩ := pt_S ss c e
  rw [putDM_dic, h1, h2, okPut_str _ _ rfl (all_kS ss), Bool.true_and, if_pos]
  refine decide_eq_true ?_
  show (kS ss).length < 16777216
  rw [show (kS ss).length = ss.length from List.length_map _]; omega
theorem putS_len (ss : List (Str × Int)) (c : Str) (e : Int) : (putS ss c e).length ≤ ss.length + 1 := by
  unfold putS
  split
  · rw [List.length_map]; omega
  · rw [List.length_append, List.length_singleton]; omega
theorem putS_nodup {ss : List (Str × Int)} (h : (ss.map (·.1)).Nodup) (c : Str) (e : Int) : ((putS ss c e).map (·.1)).Nodup := by
  unfold putS
  split
  · rw [List.map_map]
    have : (ss.map ((fun x : Str × Int => x.1) ∘ fun p => if p.1 = c then (p.1, e) else p)) = ss.map (·.1) := List.map_congr_left fun p _ => by
      show (if p.1 = c then (p.1, e) else p).1 = p.1
      by_cases g : p.1 = c <;> simp [g]
    rw [this]; exact h
  · rename_i hn
    rw [List.map_append, List.nodup_append]
    refine ⟨h, by simp, fun a ha b hb => ?_⟩
    simp only [List.map_cons, List.map_nil, List.mem_singleton] at hb
    subst hb
    obtain ⟨p, hp, rfl⟩ := List.mem_map.mp ha
    intro z
    exact hn (List.any_eq_true.mpr ⟨p, hp, decide_eq_true z⟩)
/-! ### the outer loop -/
def nmD (cs : List Nat) : Str := ⟨cs.toArray⟩
def chL (cs : List Nat) (m : Nat) : List Nat := ((cs.zipIdx).filter fun q => bitB m q.2).map (·.1)
def chS (cs : List Nat) (m : Nat) : Str := ⟨(chL cs m).toArray⟩
theorem strD_nm (cs : List Nat) : strD (nmD cs) = cs.map L1 := by
  show (cs.toArray.toList.map fun c => D.str ⟨#[c]⟩) = _
  rw [List.toList_toArray]; rfl
def znD (q : Nat × Nat) : D := .tup [natI q.2, L1 q.1]
theorem enum_nm (cs : List Nat) : enumA [.str (nmD cs)] = some (cs.zipIdx.map znD) := by
  show some (enumD (strD (nmD cs))) = _
  rw [strD_nm]
  unfold enumD
  rw [List.zipIdx_map, List.map_map]
  rfl
theorem chL_len (cs : List Nat) (m : Nat) : (chL cs m).length ≤ cs.length := by
  unfold chL
  rw [List.length_map]
  have := List.length_filter_le (fun q => bitB m q.2) cs.zipIdx
  rwa [List.length_zipIdx] at this
noncomputable abbrev chC : M Rf := (sStr1 joinF (sK (.str "")) (sLc [9, 10] (sRng enumA (sCons (cap (sVar 3)) sNil)) (gTupD 2 (gMore (gSet 9) (gMore (gSet 10) gNone))) (sB (sBin eqD (sBin andD (sBin shrD (sVar 5) (sVar 9)) (sK (.int 1))) (sK (.int 1)))) (sVar 10)))
theorem filt_zn (m : Nat) : ∀ qs : List (Nat × Nat), ((qs.map znD).filter fun d => bitB m (iN (fstD d))).map sndD = ((qs.filter fun q => bitB m q.2).map (·.1)).map L1
  | [] => rfl
  | q :: qs => by
    have ih := filt_zn m qs
    rw [List.map_cons]
    have e : bitB m (iN (fstD (znD q))) = bitB m q.2 := by
      show bitB m (iN (natI q.2)) = _
      rw [iN_nat]
    cases h : bitB m q.2 with
    | true => rw [List.filter_cons_of_pos (by rw [e]; exact h), List.filter_cons_of_pos (by exact h), List.map_cons, List.map_cons, List.map_cons, ih]; rfl
    | false => rw [List.filter_cons_of_neg (by rw [e, h]; simp), List.filter_cons_of_neg (by rw [h]; simp), ih]
theorem ch_ok {cs : List Nat} (hc : cs.length ≤ 100) (m : Nat) (x0 x1 x2 x4 x6 x7 x8 : Sl) : chC [x0, x1, x2, .dat (.str (nmD cs)), x4, .dat (.int m), x6, x7, x8, .un, .un] = some (.ok (.dat (.str (chS cs m))), [x0, x1, x2, .dat (.str (nmD cs)), x4, .dat (.int m), x6, x7, x8, .un, .un]) := by
  have e := loopL_fmk (g := gTupD 2 (gMore (gSet 9) (gMore (gSet 10) gNone))) (ct := sB (sBin eqD (sBin andD (sBin shrD (sVar 5) (sVar 9)) (sK (.int 1))) (sK (.int 1)))) (ce := cap (sVar 10)) (vs := [9, 10]) (Γ0 := [x0, x1, x2, .dat (.str (nmD cs)), x4, .dat (.int m), x6, x7, x8, .un, .un]) (p := fun d => bitB m (iN (fstD d))) (f := sndD) (cs.zipIdx.map znD) [] (fun d hd => by
    obtain ⟨q, _, rfl⟩ := List.mem_map.mp hd
    refine ⟨[x0, x1, x2, .dat (.str (nmD cs)), x4, .dat (.int m), x6, x7, x8, .dat (natI q.2), .dat (L1 q.1)], [x0, x1, x2, .dat (.str (nmD cs)), x4, .dat (.int m), x6, x7, x8, .dat (natI q.2), .dat (L1 q.1)], rfl, ?_, fun _ => rfl, fun _ => ⟨[x0, x1, x2, .dat (.str (nmD cs)), x4, .dat (.int m), x6, x7, x8, .dat (natI q.2), .dat (L1 q.1)], rfl, rfl⟩⟩
    show _ = some (Except.ok (bitB m (iN (natI q.2))), _)
    rw [iN_nat]
    simp [bnd_ap, natI, bitB]) (by rw [List.length_map, List.length_zipIdx, List.length_nil]; omega)
  rw [filt_zn, List.nil_append] at e
  have e2 : joinF (.str "") (.lst ((chL cs m).map L1)) = some (.dat (.str (chS cs m))) := joinF_L1 (chL cs m) (by have := chL_len cs m; omega)
  have e3 := enum_nm cs
  have e4 : (((cs.zipIdx.filter fun q => bitB m q.2).map (·.1)).map L1) = (chL cs m).map L1 := rfl
  rw [e4] at e
  generalize (chL cs m).map L1 = CL at *
  generalize cs.zipIdx.map znD = Z at *
  generalize nmD cs = N at *
  generalize chS cs m = CS at *
  simp [bnd_ap, e3, e, e2]
noncomputable abbrev coI : M (List D) := sRng range2 (sCons (cap (sK (.int 1))) (sCons (cap (sCB lenF (oCons (sVar 2) oNil))) sNil))
noncomputable abbrev coB : M Fl := (sSeq (sSet 6 (sK (.int 0)))
 (sSeq (sFor coI (gSet 7) ciB)
 (sIf (sB (sBin gtD (sVar 6) (sK (.int 0))))
 (sSeq (sSet 8 chC)
 (sAsg (gDx (sVar 4) (sVar 8)) (sVar 6)))
 sSkip)))
noncomputable def stS (cs : List Nat) (ks : List Nat) (t : Nat → Int) (ss : List (Str × Int)) (m : Nat) : List (Str × Int) := if 0 < ks.foldl (exT t m) 0 then putS ss (chS cs m) (ks.foldl (exT t m) 0) else ss
theorem co_turn {T : D} {t : Nat → Int} {ks cs : List Nat} {ss : List (Str × Int)} {m : Nat} (hc : cs.length ≤ 100) (hs : ss.length ≤ 1000) (hk : ∀ x0 x1 x3 x4 x5 x6 x7 x8 x9 x10 : Sl, coI [x0, x1, .own T, x3, x4, x5, x6, x7, x8, x9, x10] = some (.ok (ks.map natI), [x0, x1, .own T, x3, x4, x5, x6, x7, x8, x9, x10]))
    (ht : ∀ k ∈ ks, ixD T (.int (k : Nat)) = some (.dat (.int (t k)))) (x0 x1 x6 x7 x8 : Sl) :
    ∃ y6 y7 y8, coB [x0, x1, .own T, .dat (.str (nmD cs)), .own (.dic (kS ss) (vS ss)), .dat (.int m), x6, x7, x8, .un, .un] = some (.ok .nx, [x0, x1, .own T, .dat (.str (nmD cs)), .own (.dic (kS (stS cs ks t ss m)) (vS (stS cs ks t ss m))), .dat (.int m), y6, y7, y8, .un, .un]) := by
  obtain ⟨y7, e1⟩ := ci_loop (T := T) (m := m) (t := t) x0 x1 (.dat (.str (nmD cs))) (.own (.dic (kS ss) (vS ss))) x8 .un .un ks 0 x7 ht
  unfold stS
  generalize ks.foldl (exT t m) 0 = ex at *
  have a1 : sSet 6 (sK (.int 0)) [x0, x1, .own T, .dat (.str (nmD cs)), .own (.dic (kS ss) (vS ss)), .dat (.int m), x6, x7, x8, .un, .un] = some (.ok .nx, [x0, x1, .own T, .dat (.str (nmD cs)), .own (.dic (kS ss) (vS ss)), .dat (.int m), .dat (.int 0), x7, x8, .un, .un]) := rfl
  have a2 : sFor coI (gSet 7) ciB [x0, x1, .own T, .dat (.str (nmD cs)), .own (.dic (kS ss) (vS ss)), .dat (.int m), .dat (.int 0), x7, x8, .un, .un] = some (.ok .nx, [x0, x1, .own T, .dat (.str (nmD cs)), .own (.dic (kS ss) (vS ss)), .dat (.int m), .dat (.int ex), y7, x8, .un, .un]) := by
    rw [sFor_ap, bnd_to (hk _ _ _ _ _ _ _ _ _ _)]
    exact e1
  by_cases h : 0 < ex
  · rw [if_pos h]
    refine ⟨.dat (.int ex), y7, .dat (.str (chS cs m)), sSeq_to a1 (sSeq_to a2 ?_)⟩
    have e2 := ch_ok hc m x0 x1 (.own T) (.own (.dic (kS ss) (vS ss))) (.dat (.int ex)) y7 x8
    have e3 := put_S (chS cs m) ex hs
    generalize hn : Sl.dat (.str (nmD cs)) = N at *
    generalize kS (putS ss (chS cs m) ex) = K2 at *
    generalize vS (putS ss (chS cs m) ex) = V2 at *
    generalize kS ss = K1 at *
    generalize vS ss = V1 at *
    have a3 : sSet 8 chC [x0, x1, .own T, N, .own (.dic K1 V1), .dat (.int m), .dat (.int ex), y7, x8, .un, .un] = some (.ok .nx, [x0, x1, .own T, N, .own (.dic K1 V1), .dat (.int m), .dat (.int ex), y7, .dat (.str (chS cs m)), .un, .un]) := by
      rw [sSet_ap, bnd_to e2]; rfl
    rw [sIf_ap, bnd_to (a := true) (Γ' := [x0, x1, .own T, N, .own (.dic K1 V1), .dat (.int m), .dat (.int ex), y7, x8, .un, .un]) (by simp [bnd_ap, h])]
    rw [if_pos rfl]
    refine sSeq_to a3 ?_
    simp [bnd_ap, e3, -putDM_dic]
  · rw [if_neg h]
    exact ⟨.dat (.int ex), y7, x8, sSeq_to a1 (sSeq_to a2 (by simp [bnd_ap, h]))⟩
theorem stS_len (cs ks : List Nat) (t : Nat → Int) (ss : List (Str × Int)) (m : Nat) : (stS cs ks t ss m).length ≤ ss.length + 1 := by
  unfold stS
  split
  · exact putS_len _ _ _
  · omega
theorem stS_nodup {cs ks : List Nat} {t : Nat → Int} {ss : List (Str × Int)} (h : (ss.map (·.1)).Nodup) (m : Nat) : ((stS cs ks t ss m).map (·.1)).Nodup := by
  unfold stS
  split
  · exact putS_nodup h _ _
  · exact h
theorem co_loop {T : D} {t : Nat → Int} {ks cs : List Nat} (hc : cs.length ≤ 100) (hk : ∀ x0 x1 x3 x4 x5 x6 x7 x8 x9 x10 : Sl, coI [x0, x1, .own T, x3, x4, x5, x6, x7, x8, x9, x10] = some (.ok (ks.map natI), [x0, x1, .own T, x3, x4, x5, x6, x7, x8, x9, x10])) (ht : ∀ k ∈ ks, ixD T (.int (k : Nat)) = some (.dat (.int (t k)))) (x0 x1 : Sl) :
    ∀ (ms : List Nat) (ss : List (Str × Int)) (x5 x6 x7 x8 : Sl), ss.length + ms.length ≤ 1000 → ∃ y5 y6 y7 y8,
    loopF (gSet 5) coB (ms.map natI) [x0, x1, .own T, .dat (.str (nmD cs)), .own (.dic (kS ss) (vS ss)), x5, x6, x7, x8, .un, .un] = some (.ok .nx, [x0, x1, .own T, .dat (.str (nmD cs)), .own (.dic (kS (ms.foldl (stS cs ks t) ss)) (vS (ms.foldl (stS cs ks t) ss))), y5, y6, y7, y8, .un, .un])
  | [], ss, x5, x6, x7, x8, hl => ⟨x5, x6, x7, x8, rfl⟩
  | m :: ms, ss, x5, x6, x7, x8, hl => by
    simp only [List.length_cons] at hl
    obtain ⟨z6, z7, z8, e⟩ := co_turn (m := m) hc (ss := ss) (by omega) hk ht x0 x1 x6 x7 x8
    obtain ⟨y5, y6, y7, y8, ih⟩ := co_loop hc hk ht x0 x1 ms (stS cs ks t ss m) (.dat (.int m)) z6 z7 z8 (by have := stS_len cs ks t ss m; omega)
    refine ⟨y5, y6, y7, y8, ?_⟩
    rw [List.foldl_cons, ← ih, List.map_cons, loopF_cons]
    have e2 : gSet 5 (natI m) [x0, x1, .own T, .dat (.str (nmD cs)), .own (.dic (kS ss) (vS ss)), x5, x6, x7, x8, .un, .un] = some (.ok (), [x0, x1, .own T, .dat (.str (nmD cs)), .own (.dic (kS ss) (vS ss)), .dat (.int m), x6, x7, x8, .un, .un]) := rfl
    rw [bnd_to e2, bnd_to e]
theorem fold_len (cs ks : List Nat) (t : Nat → Int) : ∀ (ms : List Nat) (ss : List (Str × Int)), (ms.foldl (stS cs ks t) ss).length ≤ ss.length + ms.length
  | [], ss => by simp
  | m :: ms, ss => by
    have h1 := fold_len cs ks t ms (stS cs ks t ss m)
    have h2 := stS_len cs ks t ss m
    rw [List.foldl_cons, List.length_cons]
    omega
theorem fold_nodup (cs ks : List Nat) (t : Nat → Int) : ∀ (ms : List Nat) (ss : List (Str × Int)), (ss.map (·.1)).Nodup → ((ms.foldl (stS cs ks t) ss).map (·.1)).Nodup
  | [], ss, h => h
  | m :: ms, ss, h => fold_nodup cs ks t ms _ (stS_nodup h m)
/-! ### the dict, its keys sorted -/
def sortS (ss : List (Str × Int)) : List Str := (ss.map (·.1)).mergeSort strLe
def valS (ss : List (Str × Int)) (c : Str) : Int := match lkD (kS ss) (vS ss) (.str c) with
  | some (.int i) => i
  | _ => 0
theorem lk_S : ∀ (ss : List (Str × Int)) (c : Str), c ∈ ss.map (·.1) → ∃ i : Int, lkD (kS ss) (vS ss) (.str c) = some (.int i)
  | [], c, h => by cases h
  | p :: ss, c, h => by
    show ∃ i : Int, (if kE (.str p.1) (.str c) then some (D.int p.2) else lkD (kS ss) (vS ss) (.str c)) = some (.int i)
    rw [kE_str]
    by_cases e : p.1 = c
    · exact ⟨p.2, by rw [decide_eq_true e]; rfl⟩
    · rw [decide_eq_false e, if_neg (by simp)]
      refine lk_S ss c ?_
      rcases List.mem_cons.mp h with h | h
      · exact absurd h.symm e
      · exact h
theorem get_S {ss : List (Str × Int)} {c : Str} (h : c ∈ ss.map (·.1)) : getD2 (.dic (kS ss) (vS ss)) (.str c) = some (.dat (.int (valS ss c))) := by
  obtain ⟨i, e⟩ := lk_S ss c h
  have ok : okGet (kS ss) (.str c) = true := by
    unfold okGet
    have a1 : (kS ss).isEmpty = false := by
      cases ss with
      | nil => cases h
      | cons => rfl
    rw [a1, atom_kS, show atomK (.str c) = true from rfl]; simp
  unfold valS
  rw [getD2_dic, if_pos ok, e]; rfl
theorem sorted_S {ss : List (Str × Int)} (h : ss.length < 64) : sortedD2 [.dic (kS ss) (vS ss)] = some (.own (.lst ((sortS ss).map .str))) := by
  show (if ((kS ss).all isStrD && decide ((kS ss).length < 64)) = true then some (Rf.own (.lst (sortD (kS ss)))) else none) = _
  rw [all_kS, show (kS ss).length = ss.length from List.length_map _, decide_eq_true h, if_pos (by rfl)]
  have : kS ss = (ss.map (·.1)).map .str := by unfold kS; rw [List.map_map]; rfl
  rw [this, sortD_strs]; rfl
def unS : D → Str
  | .str x => x
  | _ => ⟨#[]⟩
theorem dc_S {ss : List (Str × Int)} (h : ss.length < 64) (hn : (ss.map (·.1)).Nodup) (x0 x1 x2 x3 x5 x6 x7 x9 x10 : Sl) : loopDc (gSet 8) (DL.ret true) (cap (sVar 8)) (cap (sBin getD2 (sVar 4) (sVar 8))) [8] ((sortS ss).map .str) [] [] [x0, x1, x2, x3, .own (.dic (kS ss) (vS ss)), x5, x6, x7, .un, x9, x10] =
    some (.ok ((sortS ss).map .str, (sortS ss).map fun c => .int (valS ss c)), [x0, x1, x2, x3, .own (.dic (kS ss) (vS ss)), x5, x6, x7, .un, x9, x10]) := by
  have hp : (sortS ss).Perm (ss.map (·.1)) := List.mergeSort_perm _ _
  have e := loopDc_new (g := gSet 8) (ck := cap (sVar 8)) (cv := cap (sBin getD2 (sVar 4) (sVar 8))) (vs := [8]) (Γ0 := [x0, x1, x2, x3, .own (.dic (kS ss) (vS ss)), x5, x6, x7, .un, x9, x10]) (fk := id) (fv := fun d => .int (valS ss (unS d))) (K := isStrD) okPut_str ((sortS ss).map .str) [] [] (fun d hd => by
    obtain ⟨c, hc, rfl⟩ := List.mem_map.mp hd
    have g := get_S (hp.mem_iff.mp hc)
    refine ⟨[x0, x1, x2, x3, .own (.dic (kS ss) (vS ss)), x5, x6, x7, .dat (.str c), x9, x10], [x0, x1, x2, x3, .own (.dic (kS ss) (vS ss)), x5, x6, x7, .dat (.str c), x9, x10], [x0, x1, x2, x3, .own (.dic (kS ss) (vS ss)), x5, x6, x7, .dat (.str c), x9, x10], rfl, rfl, ?_, rfl⟩
    show _ = some (Except.ok (D.int (valS ss c)), _)
    simp [bnd_ap, g, -getD2_dic]) (fun d hd => by
    obtain ⟨c, hc, rfl⟩ := List.mem_map.mp hd
    rfl) rfl (by
    rw [List.nil_append, List.map_id, List.pairwise_map]
    exact (hp.symm.nodup hn).imp fun {a b} z => by rw [kE_str, decide_eq_false z]) (by
    rw [List.length_map, hp.length_eq, List.length_map, List.length_nil]; omega)
  rw [e, List.nil_append, List.nil_append, List.map_id, List.map_map]
  rfl
theorem counts_run {tw pl T : D} {t : Nat → Int} {N : Nat} {ks cs : List Nat} {ss : List (Str × Int)} (hc : cs.length ≤ 100) (hN : N ≤ 60) (hks : ks = (List.range (N - 1)).map (1 + ·)) (hm : F_meeting_counts [tw, pl] = some (.ok (.own T))) (hn : F_Tower_names [tw] = some (.ok (.dat (.str (nmD cs))))) (hi : isInsB k_Tower "" tw = true)
    (hlen : lenF [T] = some (.dat (.int (N : Nat)))) (ht : ∀ k ∈ ks, ixD T (.int (k : Nat)) = some (.dat (.int (t k)))) (hss : ss = ks.foldl (stS cs ks t) []) :
    F_counts_of [tw, pl] = some (.ok (.own (.dic ((sortS ss).map .str) ((sortS ss).map fun c => .int (valS ss c))))) := by
  have hkl : ks.length = N - 1 := by rw [hks, List.length_map, List.length_range]
  have hk : ∀ x0 x1 x3 x4 x5 x6 x7 x8 x9 x10 : Sl, coI [x0, x1, .own T, x3, x4, x5, x6, x7, x8, x9, x10] = some (.ok (ks.map natI), [x0, x1, .own T, x3, x4, x5, x6, x7, x8, x9, x10]) := fun x0 x1 x3 x4 x5 x6 x7 x8 x9 x10 => by
    have e := range2_n (a := 1) (b := N) (by omega) (by omega)
    have e' : range2 [.int 1, .int (N : Int)] = some (ks.map natI) := by rw [hks]; exact e
    simp [bnd_ap, hlen, e']
  obtain ⟨y5, y6, y7, y8, e⟩ := co_loop hc hk ht (.dat tw) (.dat pl) ks [] .un .un .un .un (by rw [List.length_nil]; omega)
  have hl := fold_len cs ks t ks []
  have hnd := fold_nodup cs ks t ks [] .nil
  rw [← hss] at e hl hnd
  have hl' : ss.length < 64 := by rw [List.length_nil] at hl; omega
  have e1 := sorted_S hl'
  refine runDef_to (f := .rt (.own (.dic ((sortS ss).map .str) ((sortS ss).map fun c => .int (valS ss c))))) (Γ := [.dat tw, .dat pl, .un, .un, .un, .un, .un, .un, .un, .un, .un]) (Γ' := [.dat tw, .dat pl, .own T, .dat (.str (nmD cs)), .own (.dic (kS ss) (vS ss)), y5, y6, y7, keepD (some y8), .un, .un]) rfl ?_ rfl
  refine sSeq_to (Γ' := [.dat tw, .dat pl, .own T, .dat (.str (nmD cs)), .un, .un, .un, .un, .un, .un, .un]) (by
    generalize nmD cs = N' at *
    simp [bnd_ap, hm, hn, hi]) ?_
  refine sSeq_to (Γ' := [.dat tw, .dat pl, .own T, .dat (.str (nmD cs)), .own (.dic (kS []) (vS [])), .un, .un, .un, .un, .un, .un]) (by
    generalize nmD cs = N' at *
    simp [bnd_ap, kS, vS]) ?_
  refine sSeq_to (Γ' := [.dat tw, .dat pl, .own T, .dat (.str (nmD cs)), .own (.dic (kS ss) (vS ss)), y5, y6, y7, y8, .un, .un]) ?_ ?_
  · rw [sFor_ap, bnd_to (hk _ _ _ _ _ _ _ _ _ _)]
    exact e
  · have e2 := dc_S hl' hnd (.dat tw) (.dat pl) (.own T) (.dat (.str (nmD cs))) y5 y6 y7 .un .un
    generalize nmD cs = N' at *
    generalize (sortS ss).map D.str = SK at *
    generalize ((sortS ss).map fun c => D.int (valS ss c)) = SV at *
    generalize kS ss = K1 at *
    generalize vS ss = V1 at *
    simp [bnd_ap, e1, e2]
end Law

namespace Law
open PySem DL G
/-! ### a song is made -/
theorem pr_names (l : List (Nat × Int)) : F_Tower_names [towerD l] = some (.ok (.dat (.str (nmD (l.map (·.1)))))) := by simp [F_Tower_names, runDef_ap, c_Tower_names, st0, bnd_ap, towerD, namesS, nmD]
theorem pr_round (l : List (Nat × Int)) : F_Tower_full_round [towerD l] = some (.ok (.dat (.int (lcmL 1 (perN l))))) := by simp [F_Tower_full_round, runDef_ap, c_Tower_full_round, st0, bnd_ap, towerD]
def perI (l : List (Nat × Int)) (i : Nat) : Nat := (perN l).getD i 0
/-- how often the bells of a number of bits strike together -/
def meetV (l : List (Nat × Int)) (pl : List Int) (m : Nat) : Int := mtV (evB pl l.length) (mem l.length m) (lcmL 1 (perN l)) (lcmL 1 ((mem l.length m).map (perI l)))
theorem per_mem {l : List (Nat × Int)} (b : BellsT l) (m : Nat) : ∀ p ∈ (mem l.length m).map (perI l), 0 < p ∧ p ≤ 1000 := fun p hp => by
  obtain ⟨i, hi, rfl⟩ := List.mem_map.mp hp
  exact getD_pos (per_pos b) (by rw [len_pers]; exact mem_lt hi)
theorem common_mem {l : List (Nat × Int)} (b : BellsT l) (m : Nat) : F_common_multiple [.lst ((mem l.length m).map fun i => natI (perI l i))] = some (.ok (.dat (.int (lcmL 1 ((mem l.length m).map (perI l)) : Nat)))) := by
  have h := commonL_ok (per_mem b m)
  rw [List.map_map] at h
  exact h
theorem ix_pers (l : List (Nat × Int)) (i : Nat) (h : i < l.length) : ixD (.tup (persD l)) (.int (i : Nat)) = some (.dat (natI (perI l i))) := ix_nat (xs := perN l) (i := i) (by rw [len_pers]; exact h)
theorem lenF_pd (l : List (Nat × Int)) : lenF [.tup (persD l)] = some (.dat (.int (l.length : Nat))) := by rw [lenF_tup, len_persD]
theorem lcm_mem {l : List (Nat × Int)} (b : BellsT l) (m : Nat) : (0 : Int) < ((lcmL 1 ((mem l.length m).map (perI l)) : Nat) : Int) ∧ ((lcmL 1 ((mem l.length m).map (perI l)) : Nat) : Int) < 18446744073709551616 := by
  have h1 := lcmL_pos ((mem l.length m).map (perI l)) 1 (by decide) (per_mem b m)
  have h2 := lcm_bound (per_mem b m) (by rw [List.length_map]; have := mem_len l.length m; have := b.hi; omega)
  omega
theorem meeting_ok {l : List (Nat × Int)} (b : BellsT l) {pl : List Int} (hl : pl.length = (pairs l.length).length) : F_meeting_counts [towerD l, .tup (pl.map .int)] = some (.ok (.own (.lst (.int 0 :: (bitsL l.length).map fun m => .int (meetV l pl m))))) :=
  meeting_run (ys := fun m => .dat (.lst ((mem l.length m).map natI))) b.hi hl (isIns_tower l) (pr_periods l) (lenF_pd l) fun m _ F x6 hF =>
    mt_turn b.hi hF (lenF_pd l) (fun i j h g => ev_get h g hl) (isIns_tower l) (pr_round l) (ix_pers l) (common_mem b m) (lcm_mem b m).1 (lcm_mem b m).2 x6
/-- the numbers of the chimes of a round -/
noncomputable def cntS (l : List (Nat × Int)) (pl : List Int) : List (Str × Int) := (bitsL l.length).foldl (stS (l.map (·.1)) (bitsL l.length) (meetV l pl)) []
theorem ix_meet {n : Nat} (v : Nat → Int) : ∀ k ∈ bitsL n, ixD (.lst (.int 0 :: (bitsL n).map fun m => .int (v m))) (.int (k : Nat)) = some (.dat (.int (v k))) := fun k hk => by
  unfold bitsL at *
  obtain ⟨j, hj, rfl⟩ := List.mem_map.mp hk
  have hj := List.mem_range.mp hj
  rw [ixD_lst, atI_nat, show 1 + j = j + 1 by omega, List.getElem?_cons_succ, List.getElem?_map, List.getElem?_map, List.getElem?_range hj]
  show some (Rf.dat (.int (v (1 + j)))) = _
  rw [Nat.add_comm]
theorem len_meet {n : Nat} (h : n ≤ 5) (v : Nat → Int) : lenF [.lst (.int 0 :: (bitsL n).map fun m => .int (v m))] = some (.dat (.int ((2 ^ n : Nat) : Int))) := by
  rw [lenF_lst, List.length_cons, List.length_map, (bits_len h).1, show 2 ^ n - 1 + 1 = 2 ^ n by have := pow_le h; omega]
theorem counts_ok {l : List (Nat × Int)} (b : BellsT l) {pl : List Int} (hl : pl.length = (pairs l.length).length) : F_counts_of [towerD l, .tup (pl.map .int)] = some (.ok (.own (.dic ((sortS (cntS l pl)).map .str) ((sortS (cntS l pl)).map fun c => .int (valS (cntS l pl) c))))) :=
  counts_run (cs := l.map (·.1)) (ks := bitsL l.length) (t := meetV l pl) (N := 2 ^ l.length) (by rw [List.length_map]; have := b.hi; omega) (by have := pow_le b.hi; omega) rfl (meeting_ok b hl) (pr_names l) (isIns_tower l) (len_meet b.hi _) (ix_meet _) rfl
def songI (tw R W C : D) : D := .ins k_Song ["own_tower", "own_firsts", "own_pattern", "own_chimes"] [tw, R, W, C]
theorem song_run {tw R P W : D} {ks vs : List D} (e1 : F_need_firsts [tw, R] = some (.ok (.dat .non))) (e2 : F_Tower_periods [tw] = some (.ok (.dat P))) (e3 : F_places_of [P, R] = some (.ok (.dat W))) (e4 : isInsB k_Tower "" tw = true) (e5 : F_counts_of [tw, W] = some (.ok (.own (.dic ks vs)))) (e6 : listD2 [.dic ks vs] = some (.own (.lst ks))) :
    F_Song___init (.ins k_Song [] []) [tw, R] = some (.ok (.dat .non), songI tw R W (.tup ks)) := by
  simp [F_Song___init, runDefM_ap, c_Song___init, st0, bnd_ap, e1, e2, e3, e4, e5, e6, songI]
theorem list_S (cs : List Str) (vs : List D) : listD2 [.dic (cs.map .str) vs] = some (.own (.lst (cs.map .str))) := by
  show (if (cs.map D.str).all atomK then _ else _) = _
  rw [if_pos (List.all_eq_true.mpr fun d hd => by
    obtain ⟨c, _, rfl⟩ := List.mem_map.mp hd
    rfl)]
noncomputable def songD (l : List (Nat × Int)) (rs : List Nat) : D := songI (towerD l) (rowD rs) (placesD (perN l) rs) (.tup ((sortS (cntS l (places (perN l) rs))).map .str))
theorem len_places (l : List (Nat × Int)) (rs : List Nat) : (places (perN l) rs).length = (pairs l.length).length := by
  unfold places
  rw [List.length_map, len_pers]
theorem song_ok {l : List (Nat × Int)} (b : BellsT l) {rs : List Nat} (h : RowP (perN l) rs) : F_Song___init (.ins k_Song [] []) [towerD l, rowD rs] = some (.ok (.dat .non), songD l rs) :=
  song_run (need_ok h) (pr_periods l) (pers_places b h) (isIns_tower l) (counts_ok b (len_places l rs)) (list_S _ _)
theorem isIns_songI (tw R W C : D) : isInsB k_Song "" (songI tw R W C) = true := by
  show (decide (k_Song = k_Song) && !(["own_tower", "own_firsts", "own_pattern", "own_chimes"] : List Str).contains "") = true
  decide +kernel
theorem song_pattern (tw R W C : D) : F_Song_pattern [songI tw R W C] = some (.ok (.dat W)) := by simp [F_Song_pattern, runDef_ap, c_Song_pattern, st0, bnd_ap, songI]
end Law

namespace Law
open PySem DL G
/-! ### parity of places -/
theorem place_par {d g : Int} (h : 0 < g) : decide (place d g % 2 = 0) = decide (d % g = 0) := by
  refine decide_eq_decide.mpr ?_
  have hr := Int.emod_nonneg d (by omega : g ≠ 0)
  have hlt := Int.emod_lt_of_pos d h
  have hd := Int.mul_ediv_add_emod d g
  unfold place
  generalize hq : d / g = q at *
  generalize hm : d % g = r at *
  by_cases h0 : r = 0
  · have : (0 - d) / g = -q := ((Int.ediv_emod_unique (a := 0 - d) (b := g) (r := 0) (q := -q) h).mpr ⟨by rw [Int.mul_neg]; omega, by omega, h⟩).1
    rw [this]
    constructor
    · intro _; exact h0
    · intro _; omega
  · have : (0 - d) / g = -q - 1 := ((Int.ediv_emod_unique (a := 0 - d) (b := g) (r := g - r) (q := -q - 1) h).mpr ⟨by rw [Int.mul_sub, Int.mul_neg, Int.mul_one]; omega, by omega, by omega⟩).1
    rw [this]
    constructor
    · intro z; omega
    · intro z; exact absurd z h0
theorem place_abs {d g : Int} : (place d g).natAbs ≤ 2 * d.natAbs := by
  have h1 := Int.natAbs_ediv_le_natAbs d g
  have h2 := Int.natAbs_ediv_le_natAbs (0 - d) g
  unfold place
  omega
theorem fine_abs {i : Int} (h : i.natAbs < 10000000000000000) : fine (.int i) = true := by
  have := log_small (i := (i.natAbs : Int)) (by omega) (by omega)
  rw [Int.natAbs_natCast] at this
  exact decide_eq_true this
theorem RowP.le : ∀ {ps rs : List Nat}, RowP ps rs → (∀ p ∈ ps, 0 < p ∧ p ≤ 1000) → ∀ r ∈ rs, r ≤ 1000
  | [], [], _, _, r, hr => by cases hr
  | p :: ps, x :: rs, h, hp, r, hr => by
    have h1 : x < p := h.1
    have h2 := hp p (by simp)
    rcases List.mem_cons.mp hr with rfl | hr
    · omega
    · exact RowP.le h.2 (fun q hq => hp q (by simp [hq])) r hr
theorem ints_repr {is : List Int} (hl : is.length ≤ 1000) (h : ∀ i ∈ is, i.natAbs ≤ 1000000) : ∃ X, reprF [.tup (is.map .int)] = some (.dat (.str X)) := by
  refine ⟨_, reprF_ok ?_ ?_ ?_⟩
  · refine List.all_eq_true.mpr fun d hd => ?_
    obtain ⟨i, _, rfl⟩ := List.mem_map.mp hd
    rfl
  · show fineL (is.map .int) = true
    refine fineL_all fun d hd => ?_
    obtain ⟨i, hi, rfl⟩ := List.mem_map.mp hd
    exact fine_abs (by have := h i hi; omega)
  · show wtL (is.map .int) + 3 ≤ 16777216
    have := wtL_le (ds := is.map D.int) (n := 1921) fun d hd => by
      obtain ⟨i, _, rfl⟩ := List.mem_map.mp hd
      exact Nat.le_refl _
    rw [List.length_map] at this
    omega
theorem rowD_is (rs : List Nat) : rowD rs = .tup ((rs.map fun r : Nat => (r : Int)).map .int) := by unfold rowD; rw [List.map_map]; rfl
theorem row_repr {l : List (Nat × Int)} (b : BellsT l) {rs : List Nat} (h : RowP (perN l) rs) : ∃ X, reprF [rowD rs] = some (.dat (.str X)) := by
  rw [rowD_is]
  refine ints_repr ?_ ?_
  · rw [List.length_map, h.len, len_pers]; have := b.hi; omega
  · intro i hi
    obtain ⟨r, hr, rfl⟩ := List.mem_map.mp hi
    have := h.le (per_pos b) r hr
    omega
theorem getD_le {rs : List Nat} (h : ∀ r ∈ rs, r ≤ 1000) (i : Nat) : rs.getD i 0 ≤ 1000 := by
  by_cases hi : i < rs.length
  · have := h rs[i] (List.getElem_mem hi)
    simpa [hi] using this
  · simp [List.getD, List.getElem?_eq_none (Nat.le_of_not_lt hi)]
theorem plc_abs {ps rs : List Nat} (h : ∀ r ∈ rs, r ≤ 1000) (i j : Nat) : (plc ps rs i j).natAbs ≤ 4000 := by
  unfold plc
  have h1 := place_abs (d := ((rs.getD i 0 : Nat) - (rs.getD j 0 : Nat) : Int)) (g := (Nat.gcd (ps.getD i 0) (ps.getD j 0) : Nat))
  have h2 := getD_le h i
  have h3 := getD_le h j
  omega
theorem places_repr {l : List (Nat × Int)} (b : BellsT l) {rs : List Nat} (h : RowP (perN l) rs) : ∃ X, reprF [placesD (perN l) rs] = some (.dat (.str X)) := by
  unfold placesD
  refine ints_repr ?_ ?_
  · rw [len_places]; have := pairs_len b.hi; omega
  · intro i hi
    obtain ⟨p, _, rfl⟩ := List.mem_map.mp hi
    have := plc_abs (ps := perN l) (h.le (per_pos b)) p.1 p.2
    omega
theorem plc_par {ps : List Nat} (rs : List Nat) {i : Nat} (j : Nat) (hp : 0 < ps.getD i 0 ∧ ps.getD i 0 ≤ 1000) : decide (plc ps rs i j % 2 = 0) = decide (((rs.getD i 0 : Nat) - (rs.getD j 0 : Nat) : Int) % (Nat.gcd (ps.getD i 0) (ps.getD j 0) : Nat) = 0) := by
  unfold plc
  exact place_par (gcd_small (b := ps.getD j 0) hp.1 hp.2).1
theorem neD_str_same (x : Str) : neD (.str x) (.str x) = some (.dat (.bl false)) := neD_refl rfl
theorem eqD_str_same (x : Str) : eqD (.str x) (.str x) = some (.dat (.bl true)) := eqD_refl rfl
end Law

namespace Law
/-! ### numbers: common divisors and multiples, rests -/
theorem bez (a b : Nat) : ∃ x y : Int, ((Nat.gcd a b : Nat) : Int) = a * x + b * y := by
  induction a, b using Nat.gcd.induction with
  | H0 n => exact ⟨0, 1, by rw [Nat.gcd_zero_left]; simp⟩
  | H1 m n hm ih =>
    obtain ⟨x, y, h⟩ := ih
    rw [Nat.gcd_rec, h]
    refine ⟨y - (n / m : Nat) * x, x, ?_⟩
    have e : ((n % m : Nat) : Int) = n - m * (n / m : Nat) := by
      have := Nat.mod_add_div n m
      have e2 : ((n % m + m * (n / m) : Nat) : Int) = (n : Int) := by rw [this]
      rw [Int.natCast_add, Int.natCast_mul] at e2
      omega
    rw [e, Int.sub_mul, Int.mul_sub, ← Int.mul_assoc]
    omega
theorem crt_ex {s p : Nat} (hp : 0 < p) {t r : Int} (h : ((Nat.gcd s p : Nat) : Int) ∣ r - t) : ∃ k : Nat, (p : Int) ∣ t + k * s - r := by
  obtain ⟨c, hc⟩ := h
  obtain ⟨x, y, hb⟩ := bez s p
  have hp' : (p : Int) ≠ 0 := by omega
  refine ⟨((x * c) % p).toNat, ?_⟩
  have hk : ((((x * c) % p).toNat : Nat) : Int) = (x * c) % p := Int.toNat_of_nonneg (Int.emod_nonneg _ hp')
  have hm : (x * c) % p = x * c - p * (x * c / p) := by
    have := Int.mul_ediv_add_emod (x * c) p
    omega
  rw [hk, hm]
  refine ⟨-(x * c / p) * s - y * c, ?_⟩
  have hr : r = t + (s * x + p * y) * c := by rw [← hb, ← hc]; omega
  rw [hr, Int.sub_mul, Int.add_mul, Int.mul_sub, Int.neg_mul, Int.mul_neg]
  have e1 : x * c * (s : Int) = s * x * c := by rw [Int.mul_comm (x * c) s, Int.mul_assoc]
  have e2 : (p : Int) * (x * c / p) * s = p * (x * c / p * s) := Int.mul_assoc _ _ _
  have e3 : (p : Int) * (y * c) = p * y * c := (Int.mul_assoc _ _ _).symm
  omega
theorem least_ex {P : Nat → Prop} : (∃ k, P k) → ∃ k, P k ∧ ∀ j, j < k → ¬ P j := by
  rintro ⟨k, hk⟩
  induction k using Nat.strongRecOn with
  | _ k ih =>
    by_cases h : ∃ j, j < k ∧ P j
    · obtain ⟨j, hj, hp⟩ := h
      exact ih j hj hp
    · exact ⟨k, hk, fun j hj hp => h ⟨j, hj, hp⟩⟩
theorem mod_of_dvd {a p r : Nat} (hr : r < p) (h : (p : Int) ∣ (a : Int) - r) : a % p = r := by
  obtain ⟨c, hc⟩ := h
  have e : (a : Int) = r + p * c := by omega
  have e2 : ((a % p : Nat) : Int) = (r : Int) := by
    rw [Int.natCast_emod, e, Int.add_mul_emod_self_left, Int.emod_eq_of_lt (by omega) (by omega)]
  omega
theorem dvd_of_mod {a p r : Nat} (h : a % p = r) : (p : Int) ∣ (a : Int) - r := by
  refine ⟨((a / p : Nat) : Int), ?_⟩
  have := Nat.mod_add_div a p
  have e2 : ((a % p + p * (a / p) : Nat) : Int) = (a : Int) := by rw [this]
  rw [Int.natCast_add, Int.natCast_mul, h] at e2
  omega
/-- the first time of two that bells have -/
theorem near_ex {s p t r : Nat} (hs : 0 < s) (hp : 0 < p) (hr : r < p) (h : ((Nat.gcd s p : Nat) : Int) ∣ (r : Int) - t) : ∃ k, (t + k * s) % p = r ∧ ∀ j, j < k → ¬ (t + j * s) % p = r := by
  refine least_ex ?_
  obtain ⟨k, hk⟩ := crt_ex (s := s) hp (t := t) (r := r) h
  refine ⟨k, mod_of_dvd hr ?_⟩
  rw [Int.natCast_add, Int.natCast_mul]
  exact hk
theorem lcm_parts {s p : Nat} (hs : 0 < s) (hp : 0 < p) : ∃ m, 0 < m ∧ Nat.lcm s p = m * s := by
  obtain ⟨m, hm⟩ := Nat.dvd_lcm_left s p
  refine ⟨m, ?_, by rw [hm, Nat.mul_comm]⟩
  have := Nat.lcm_pos hs hp
  rcases Nat.eq_zero_or_pos m with h | h
  · rw [hm, h] at this; simp at this
  · exact h
theorem near_lt {s p t r k : Nat} (hs : 0 < s) (hp : 0 < p) (ht : t < s) (h1 : (t + k * s) % p = r) (h2 : ∀ j, j < k → ¬ (t + j * s) % p = r) : t + k * s < Nat.lcm s p := by
  obtain ⟨m, hm, e⟩ := lcm_parts hs hp
  by_cases h : k < m
  · have : (k + 1) * s ≤ m * s := Nat.mul_le_mul_right _ h
    rw [Nat.succ_mul] at this
    omega
  · exfalso
    refine h2 (k - m) (by omega) ?_
    have e1 : t + k * s = t + (k - m) * s + Nat.lcm s p := by
      have : k * s = (k - m) * s + m * s := by rw [← Nat.add_mul]; congr 1; omega
      omega
    obtain ⟨c, hc⟩ := Nat.dvd_lcm_right s p
    rw [e1, hc, Nat.add_mul_mod_self_left] at h1
    exact h1
theorem mult_ex {s p : Nat} (hs : 0 < s) (hp : 0 < p) : ∃ k, s + k * s = Nat.lcm s p ∧ (s + k * s) % p = 0 ∧ ∀ j, j < k → ¬ (s + j * s) % p = 0 := by
  obtain ⟨m, hm, e⟩ := lcm_parts hs hp
  have e1 : s + (m - 1) * s = Nat.lcm s p := by
    rw [e]
    obtain ⟨q, rfl⟩ : ∃ q, m = q + 1 := ⟨m - 1, by omega⟩
    rw [Nat.add_sub_cancel, Nat.succ_mul]; omega
  refine ⟨m - 1, e1, ?_, fun j hj h => ?_⟩
  · rw [e1]; exact Nat.mod_eq_zero_of_dvd (Nat.dvd_lcm_right s p)
  · have hd : Nat.lcm s p ∣ s + j * s := Nat.lcm_dvd ⟨1 + j, by rw [Nat.mul_add, Nat.mul_one, Nat.mul_comm]⟩ (Nat.dvd_of_mod_eq_zero h)
    have hle := Nat.le_of_dvd (by omega) hd
    have : (j + 1) * s ≤ (m - 1) * s := Nat.mul_le_mul_right _ (by omega)
    rw [Nat.succ_mul] at this
    omega
/-- a divisor of a common multiple -/
theorem gcd_lcm_dvd (x y n : Nat) (hx : 0 < x) (hy : 0 < y) (hn : 0 < n) : Nat.gcd (Nat.lcm x y) n ∣ Nat.lcm (Nat.gcd x n) (Nat.gcd y n) := by
  have h1 : Nat.gcd (Nat.lcm x y) n ∣ Nat.lcm x y := Nat.gcd_dvd_left _ _
  have h2 : Nat.gcd (Nat.lcm x y) n ∣ n := Nat.gcd_dvd_right _ _
  have hg : 0 < Nat.gcd (Nat.lcm x y) n := Nat.gcd_pos_of_pos_right _ hn
  generalize Nat.gcd (Nat.lcm x y) n = g at *
  -- with u = gcd x g, v = gcd y g
  have hu : Nat.gcd x g ∣ Nat.gcd x n := Nat.dvd_gcd (Nat.gcd_dvd_left _ _) (Nat.dvd_trans (Nat.gcd_dvd_right _ _) h2)
  have hv : Nat.gcd y g ∣ Nat.gcd y n := Nat.dvd_gcd (Nat.gcd_dvd_left _ _) (Nat.dvd_trans (Nat.gcd_dvd_right _ _) h2)
  have hl : Nat.lcm (Nat.gcd x g) (Nat.gcd y g) ∣ Nat.lcm (Nat.gcd x n) (Nat.gcd y n) := Nat.lcm_dvd (Nat.dvd_trans hu (Nat.dvd_lcm_left _ _)) (Nat.dvd_trans hv (Nat.dvd_lcm_right _ _))
  refine Nat.dvd_trans ?_ hl
  have hw : 0 < Nat.gcd (Nat.gcd x g) (Nat.gcd y g) := Nat.gcd_pos_of_pos_left _ (Nat.gcd_pos_of_pos_left _ hx)
  refine Nat.dvd_of_mul_dvd_mul_left hw ?_
  rw [Nat.gcd_mul_lcm]
  -- w * g divides u * v
  have hwx : Nat.gcd (Nat.gcd x g) (Nat.gcd y g) ∣ x := Nat.dvd_trans (Nat.gcd_dvd_left _ _) (Nat.gcd_dvd_left _ _)
  have hwg : Nat.gcd (Nat.gcd x g) (Nat.gcd y g) ∣ g := Nat.dvd_trans (Nat.gcd_dvd_left _ _) (Nat.gcd_dvd_right _ _)
  have hwy : Nat.gcd (Nat.gcd x g) (Nat.gcd y g) ∣ y := Nat.dvd_trans (Nat.gcd_dvd_right _ _) (Nat.gcd_dvd_left _ _)
  generalize Nat.gcd (Nat.gcd x g) (Nat.gcd y g) = w at *
  have a1 : w * g ∣ x * y := by
    have z : w * g ∣ Nat.gcd x y * Nat.lcm x y := Nat.mul_dvd_mul (Nat.dvd_gcd hwx hwy) h1
    rwa [Nat.gcd_mul_lcm] at z
  have a2 : w * g ∣ x * g := Nat.mul_dvd_mul hwx (Nat.dvd_refl _)
  have a3 : w * g ∣ g * y := by rw [Nat.mul_comm g y]; exact Nat.mul_dvd_mul hwy (Nat.dvd_refl _)
  have a4 : w * g ∣ g * g := Nat.mul_dvd_mul hwg (Nat.dvd_refl _)
  rw [← Nat.gcd_mul_left]
  refine Nat.dvd_gcd ?_ ?_
  · rw [← Nat.gcd_mul_right]
    exact Nat.dvd_gcd a1 a3
  · rw [← Nat.gcd_mul_right]
    exact Nat.dvd_gcd a2 a4
theorem lcm_is {f p : Nat} : f / Nat.gcd f p * p = Nat.lcm f p := by
  have h := Nat.gcd_dvd_left f p
  unfold Nat.lcm
  rw [Nat.mul_comm f p, Nat.mul_div_assoc _ h, Nat.mul_comm]
theorem lcmL_cons' (f p : Nat) (ps : List Nat) : lcmL f (p :: ps) = lcmL (Nat.lcm f p) ps := by rw [lcmL_cons, lcm_is]
theorem lcmL_append (f : Nat) (ps qs : List Nat) : lcmL f (ps ++ qs) = lcmL (lcmL f ps) qs := by
  unfold lcmL
  rw [List.foldl_append]
theorem lcmL_pos' : ∀ (ps : List Nat) (f : Nat), 0 < f → (∀ p ∈ ps, 0 < p) → 0 < lcmL f ps
  | [], f, hf, _ => hf
  | p :: ps, f, hf, h => by
    rw [lcmL_cons']
    exact lcmL_pos' ps _ (Nat.lcm_pos hf (h p (by simp))) fun q hq => h q (by simp [hq])
theorem dvd_lcmL : ∀ (ps : List Nat) (f : Nat), f ∣ lcmL f ps ∧ ∀ p ∈ ps, p ∣ lcmL f ps
  | [], f => ⟨Nat.dvd_refl _, by simp⟩
  | p :: ps, f => by
    obtain ⟨h1, h2⟩ := dvd_lcmL ps (Nat.lcm f p)
    rw [lcmL_cons']
    refine ⟨Nat.dvd_trans (Nat.dvd_lcm_left _ _) h1, fun q hq => ?_⟩
    rcases List.mem_cons.mp hq with rfl | hq
    · exact Nat.dvd_trans (Nat.dvd_lcm_right _ _) h1
    · exact h2 q hq
theorem lcmL_dvd : ∀ (ps : List Nat) (f m : Nat), f ∣ m → (∀ p ∈ ps, p ∣ m) → lcmL f ps ∣ m
  | [], f, m, h1, _ => h1
  | p :: ps, f, m, h1, h2 => by
    rw [lcmL_cons']
    exact lcmL_dvd ps _ m (Nat.lcm_dvd h1 (h2 p (by simp))) fun q hq => h2 q (by simp [hq])
theorem gcd_lcmL_dvd {n d : Nat} (hn : 0 < n) : ∀ (ps : List Nat) (f : Nat), 0 < f → (∀ p ∈ ps, 0 < p) → Nat.gcd f n ∣ d → (∀ p ∈ ps, Nat.gcd p n ∣ d) → Nat.gcd (lcmL f ps) n ∣ d
  | [], f, hf, _, h1, _ => h1
  | p :: ps, f, hf, hp, h1, h2 => by
    rw [lcmL_cons']
    have hp0 := hp p (by simp)
    refine gcd_lcmL_dvd hn ps _ (Nat.lcm_pos hf hp0) (fun q hq => hp q (by simp [hq])) ?_ fun q hq => h2 q (by simp [hq])
    exact Nat.dvd_trans (gcd_lcm_dvd f p n hf hp0 hn) (Nat.lcm_dvd h1 (h2 p (by simp)))
/-- the same rests, below the common multiple: the same number -/
theorem one_time {ps : List Nat} {a b : Nat} (ha : a < lcmL 1 ps) (hb : b < lcmL 1 ps) (h : ∀ p ∈ ps, a % p = b % p) : a = b := by
  have key : ∀ {a b : Nat}, a ≤ b → b < lcmL 1 ps → (∀ p ∈ ps, a % p = b % p) → a = b := fun {a b} hab hb h => by
    have hd : lcmL 1 ps ∣ b - a := lcmL_dvd ps 1 _ (Nat.one_dvd _) fun p hp => Nat.dvd_of_mod_eq_zero (Nat.sub_mod_eq_zero_of_mod_eq (h p hp).symm)
    rcases Nat.eq_zero_or_pos (b - a) with h0 | h0
    · omega
    · have := Nat.le_of_dvd h0 hd
      omega
  rcases Nat.le_total a b with hab | hab
  · exact key hab hb h
  · exact (key hab ha fun p hp => (h p hp).symm).symm
end Law

namespace Law
open PySem DL G
/-! ### texts of names -/
def mkS (a : List Nat) : Str := ⟨a.toArray⟩
def sD (a : List Nat) : D := .str (mkS a)
theorem mkS_list (a : List Nat) : (mkS a).cps.toList = a := List.toList_toArray
theorem mkS_len (a : List Nat) : (mkS a).length = a.length := by rw [len_list, mkS_list]
theorem mkS_inj {a b : List Nat} (h : mkS a = mkS b) : a = b := by
  have := congrArg (fun s : Str => s.cps.toList) h
  rwa [mkS_list, mkS_list] at this
theorem mkS_eta (x : Str) : mkS x.cps.toList = x := by
  cases x with
  | mk a => show (⟨a.toList.toArray⟩ : Str) = _; rw [Array.toArray_toList]
theorem e_empty : D.str "" = sD [] := by
  show D.str (PySem.Str.ofString "") = _
  rw [show PySem.Str.ofString "" = (⟨#[]⟩ : Str) by decide +kernel]; rfl
theorem L1_is (c : Nat) : L1 c = sD [c] := rfl
theorem add_S (a b : List Nat) (h : a.length + b.length ≤ 1000) : addD (sD a) (sD b) = some (.dat (sD (a ++ b))) := by
  show (if (mkS a).length + (mkS b).length ≤ 16777216 then some (Rf.dat (.str (mkS a ++ mkS b))) else none) = _
  rw [mkS_len, mkS_len, if_pos (by omega)]
  congr 2
  show D.str (⟨a.toArray ++ b.toArray⟩ : Str) = D.str ⟨(a ++ b).toArray⟩
  congr 2
  simp
theorem eq_S (a b : List Nat) : eqD (sD a) (sD b) = some (.dat (.bl (decide (a = b)))) := by
  show some (Rf.dat (.bl (mkS a == mkS b))) = _
  congr 3
  by_cases h : a = b
  · subst h; simp
  · rw [decide_eq_false h]
    simp only [beq_eq_false_iff_ne, ne_eq]
    exact fun z => h (mkS_inj z)
theorem ne_S (a b : List Nat) : neD (sD a) (sD b) = some (.dat (.bl (!decide (a = b)))) := by
  show some (Rf.dat (.bl (!(mkS a == mkS b)))) = _
  congr 4
  by_cases h : a = b
  · subst h; simp
  · rw [decide_eq_false h]
    simp only [beq_eq_false_iff_ne, ne_eq]
    exact fun z => h (mkS_inj z)
theorem in_S (c : Nat) (a : List Nat) : inD (L1 c) (sD a) = some (.dat (.bl (decide (c ∈ a)))) := by
  show some (Rf.dat (.bl (decide (c ∈ (mkS a).cps.toList)))) = _
  rw [mkS_list]
theorem notIn_S (c : Nat) (a : List Nat) : notInD (L1 c) (sD a) = some (.dat (.bl (!decide (c ∈ a)))) := by
  show some (Rf.dat (.bl (!decide (c ∈ (mkS a).cps.toList)))) = _
  rw [mkS_list]
theorem strD_S (a : List Nat) : strD (mkS a) = a.map L1 := by
  show ((mkS a).cps.toList.map fun c => D.str ⟨#[c]⟩) = _
  rw [mkS_list]; rfl
theorem seq_S (a : List Nat) (h : a.length ≤ 1000) : seqI (sD a) = some (a.map L1) := by
  show some (strD (mkS a)) = _
  rw [strD_S]
theorem len_S (a : List Nat) (h : a.length ≤ 1000) : lenF [sD a] = some (.dat (.int a.length)) := by
  show (if (mkS a).length ≤ 16777216 then some (Rf.dat (.int ((mkS a).length : Nat))) else none) = _
  rw [mkS_len, if_pos (by omega)]
theorem join_S (a : List Nat) (h : a.length ≤ 1000) : joinF (.str "") (.lst (a.map L1)) = some (.dat (sD a)) := joinF_L1 a h
end Law

namespace Law
open PySem DL G
/-! ### what strikes at a time -/
def atL : List (Nat × Int) → List Nat → Nat → List Nat
  | q :: l, r :: rs, t => if t % q.2.toNat = r then q.1 :: atL l rs t else atL l rs t
  | _, _, _ => []
theorem atL_len : ∀ (l : List (Nat × Int)) (rs : List Nat) (t : Nat), (atL l rs t).length ≤ l.length
  | [], _, _ => Nat.le_refl _
  | _ :: _, [], _ => Nat.zero_le _
  | q :: l, r :: rs, t => by
    have ih := atL_len l rs t
    unfold atL
    split
    · simp only [List.length_cons]; omega
    · simp only [List.length_cons]; omega
noncomputable abbrev atB : M Fl := (sSet 3 (sBin addD (sVar 3) (sIfE (sB (sBin eqD (sBin modD (sVar 2) (sVar 5)) (sVar 6))) (sVar 4) (sK (.str "")))))
def brD (p : (Nat × Int) × Nat) : D := .tup [bellD p.1, natI p.2]
theorem zip_br : ∀ (l : List (Nat × Int)) (rs : List Nat), zipD2 (l.map bellD) (rs.map natI) = (l.zip rs).map brD
  | [], _ => by simp [zipD2]
  | _ :: _, [] => by simp [zipD2]
  | p :: ps, w :: pl => by
    have ih := zip_br ps pl
    unfold zipD2 at *
    rw [List.map_cons, List.map_cons, List.zipWith_cons_cons, ih, List.zip_cons_cons, List.map_cons]
    rfl
theorem at_yes {t p r : Int} {N a b : D} (x0 x1 : Sl) (hp : 0 < p) (h : t % p = r) (ha : addD a N = some (.dat b)) : atB [x0, x1, .dat (.int t), .dat a, .dat N, .dat (.int p), .dat (.int r)] = some (.ok .nx, [x0, x1, .dat (.int t), .dat b, .dat N, .dat (.int p), .dat (.int r)]) := by
  simp [bnd_ap, hp, h, ha]
theorem at_no {t p r : Int} {N a b : D} (x0 x1 : Sl) (hp : 0 < p) (h : ¬ t % p = r) (ha : addD a (.str "") = some (.dat b)) : atB [x0, x1, .dat (.int t), .dat a, .dat N, .dat (.int p), .dat (.int r)] = some (.ok .nx, [x0, x1, .dat (.int t), .dat b, .dat N, .dat (.int p), .dat (.int r)]) := by
  simp [bnd_ap, hp, h, ha]
theorem at_loop (x0 x1 : Sl) (t : Nat) : ∀ (l : List (Nat × Int)) (rs acc : List Nat) (x4 x5 x6 : Sl), (∀ q ∈ l, 1 ≤ q.2 ∧ q.2 ≤ 30) → rs.length = l.length → acc.length + l.length ≤ 900 → ∃ y4 y5 y6,
    loopF (gTupD 2 (gMore (gTupD 2 (gMore (gSet 4) (gMore (gSet 5) gNone))) (gMore (gSet 6) gNone))) atB ((l.zip rs).map brD) [x0, x1, .dat (.int t), .dat (sD acc), x4, x5, x6] = some (.ok .nx, [x0, x1, .dat (.int t), .dat (sD (acc ++ atL l rs t)), y4, y5, y6])
  | [], rs, acc, x4, x5, x6, hp, hl, ha => ⟨x4, x5, x6, by simp [atL]⟩
  | q :: l, [], acc, x4, x5, x6, hp, hl, ha => by simp at hl
  | q :: l, r :: rs, acc, x4, x5, x6, hp, hl, ha => by
    have hq := hp q (by simp)
    simp only [List.length_cons] at hl ha
    have e2 : gTupD 2 (gMore (gTupD 2 (gMore (gSet 4) (gMore (gSet 5) gNone))) (gMore (gSet 6) gNone)) (brD (q, r)) [x0, x1, .dat (.int t), .dat (sD acc), x4, x5, x6] = some (.ok (), [x0, x1, .dat (.int t), .dat (sD acc), .dat (L1 q.1), .dat (.int q.2), .dat (natI r)]) := rfl
    by_cases h : t % q.2.toNat = r
    · obtain ⟨y4, y5, y6, ih⟩ := at_loop x0 x1 t l rs (acc ++ [q.1]) (.dat (L1 q.1)) (.dat (.int q.2)) (.dat (natI r)) (fun x hx => hp x (by simp [hx])) (by omega) (by rw [List.length_append, List.length_singleton]; omega)
      refine ⟨y4, y5, y6, ?_⟩
      have e : atL (q :: l) (r :: rs) t = q.1 :: atL l rs t := by show (if _ then _ else _) = _; rw [if_pos h]
      rw [e, show acc ++ q.1 :: atL l rs t = acc ++ [q.1] ++ atL l rs t by simp]
      have hm : (t : Int) % q.2 = (r : Int) := by
        have : q.2 = ((q.2.toNat : Nat) : Int) := by omega
        rw [this, ← Int.natCast_emod, h]
      exact loopF_nx e2 (at_yes x0 x1 (by omega) hm (add_S acc [q.1] (by simp; omega))) ih
    · obtain ⟨y4, y5, y6, ih⟩ := at_loop x0 x1 t l rs acc (.dat (L1 q.1)) (.dat (.int q.2)) (.dat (natI r)) (fun x hx => hp x (by simp [hx])) (by omega) (by omega)
      refine ⟨y4, y5, y6, ?_⟩
      have e : atL (q :: l) (r :: rs) t = atL l rs t := by show (if _ then _ else _) = _; rw [if_neg h]
      rw [e]
      have hm : ¬ (t : Int) % q.2 = (r : Int) := by
        have : q.2 = ((q.2.toNat : Nat) : Int) := by omega
        rw [this, ← Int.natCast_emod]
        omega
      have ha' := add_S acc [] (by simp; omega)
      rw [← e_empty, List.append_nil] at ha'
      exact loopF_nx e2 (at_no x0 x1 (by omega) hm ha') ih
theorem at_run {B R : D} {bs : List D} {t : Int} {v : D} {y4 y5 y6 : Sl} (hz : zipA2 [B, R] = some bs) (e : loopF (gTupD 2 (gMore (gTupD 2 (gMore (gSet 4) (gMore (gSet 5) gNone))) (gMore (gSet 6) gNone))) atB bs [.dat B, .dat R, .dat (.int t), .dat (.str ""), .un, .un, .un] = some (.ok .nx, [.dat B, .dat R, .dat (.int t), .dat v, y4, y5, y6])) : F_law_at [B, R, .int t] = some (.ok (.dat v)) := by
  refine runDef_to (f := .rt (.dat v)) (Γ := [.dat B, .dat R, .dat (.int t), .un, .un, .un, .un]) (Γ' := [.dat B, .dat R, .dat (.int t), .dat v, y4, y5, y6]) rfl ?_ rfl
  refine sSeq_to (Γ' := [.dat B, .dat R, .dat (.int t), .dat (.str ""), .un, .un, .un]) (by simp [bnd_ap]) ?_
  exact sSeq_to (sFor_to (Γ1 := [.dat B, .dat R, .dat (.int t), .dat (.str ""), .un, .un, .un]) (ds := bs) (sRng_to (ds := [B, R]) rfl hz) e) (by simp [bnd_ap])
theorem at_ok {l : List (Nat × Int)} (b : BellsT l) {rs : List Nat} (hl : rs.length = l.length) (t : Nat) : F_law_at [bellsD l, rowD rs, .int t] = some (.ok (.dat (sD (atL l rs t)))) := by
  have h5 := b.hi
  obtain ⟨y4, y5, y6, e⟩ := at_loop (.dat (bellsD l)) (.dat (rowD rs)) t l rs [] .un .un .un b.per hl (by simp; omega)
  rw [← e_empty, List.nil_append] at e
  exact at_run (by show some (zipD2 (l.map bellD) (rs.map natI)) = _; rw [zip_br]) e
end Law

namespace Law
open PySem DL G
/-! ### the round of bells -/
theorem lcm_eq (f p : Nat) : ((f : Int) * (p : Int)) / ((Nat.gcd f p : Nat) : Int) = ((f / Nat.gcd f p * p : Nat) : Int) := by
  have h := Nat.gcd_dvd_left f p
  generalize Nat.gcd f p = g at *
  rw [← Int.natCast_mul, ← Int.natCast_ediv, Nat.mul_comm f p, Nat.mul_div_assoc _ h, Nat.mul_comm p]
noncomputable abbrev roB : M Fl := (sSet 1 (sBin divD (sBin mulD (sVar 1) (sVar 3)) (sCallF (argN 2 F_law_divisor) (sCons (cap (sVar 1)) (sCons (cap (sVar 3)) sNil)))))
theorem ro_t5 {i j k v : Int} (x y : Sl) (hc : F_law_divisor [.int i, .int j] = some (.ok (.dat (.int k)))) (hm : mulD (.int i) (.int j) = some (.dat (.int v))) (hd : divD (.int v) (.int k) = some (.dat (.int (v / k)))) : roB [x, .dat (.int i), y, .dat (.int j)] = some (.ok .nx, [x, .dat (.int (v / k)), y, .dat (.int j)]) := by
  simp [bnd_ap, hm, hc, hd, -mulD_int, -divD_int]
theorem ro_t3 {p f : Nat} (p1 : p ≤ 1000) : mulD (.int (f : Int)) (.int (p : Int)) = some (.dat (.int ((f : Int) * (p : Int)))) := mulD_r (by omega) (by omega)
theorem ro_t4 {p f g : Nat}  (g0 : 0 < g) (g1 : g ≤ 1000) : divD (.int ((f : Int) * (p : Int))) (.int (g : Int)) = some (.dat (.int ((f : Int) * (p : Int) / (g : Int)))) := divD_ok (by omega) (by omega)
theorem ro_turn {p f g v : Nat} (x y : Sl) (e : F_law_divisor [.int f, .int p] = some (.ok (.dat (.int g)))) (g0 : 0 < g) (g1 : g ≤ 1000) (p1 : p ≤ 1000) (ed : (f : Int) * (p : Int) / (g : Int) = (v : Int)) : roB [x, .dat (.int f), y, .dat (.int p)] = some (.ok .nx, [x, .dat (.int v), y, .dat (.int p)]) := by
  have t := ro_t5 x y e (ro_t3 p1) (ro_t4 g0 g1)
  rw [ed] at t
  exact t
theorem ro_loop (x : Sl) : ∀ (l : List (Nat × Int)) (f : Nat) (y z : Sl), 0 < f → (∀ q ∈ l, 1 ≤ q.2 ∧ q.2 ≤ 30) → ∃ y' z', loopF (gTupD 2 (gMore (gSet 2) (gMore (gSet 3) gNone))) roB (l.map bellD) [x, .dat (.int f), y, z] = some (.ok .nx, [x, .dat (.int (lcmL f (perN l))), y', z'])
  | [], f, y, z, hf, hp => ⟨y, z, rfl⟩
  | q :: l, f, y, z, hf, hp => by
    have hq := hp q (by simp)
    have hn : (q.2 : Int) = ((q.2.toNat : Nat) : Int) := by omega
    have p0 : 0 < q.2.toNat := by omega
    have p1 : q.2.toNat ≤ 1000 := by omega
    have g0 : 0 < Nat.gcd f q.2.toNat := Nat.gcd_pos_of_pos_left _ hf
    have g1 : Nat.gcd f q.2.toNat ≤ q.2.toNat := Nat.le_of_dvd p0 (Nat.gcd_dvd_right _ _)
    have t := ro_turn x (.dat (L1 q.1)) (divisor_ok f q.2.toNat) g0 (by omega) p1 (lcm_eq f q.2.toNat)
    obtain ⟨y', z', ih⟩ := ro_loop x l (f / Nat.gcd f q.2.toNat * q.2.toNat) (.dat (L1 q.1)) (.dat (.int q.2.toNat)) (lcm_pos hf p0) fun r hr => hp r (by simp [hr])
    have e2 : gTupD 2 (gMore (gSet 2) (gMore (gSet 3) gNone)) (bellD q) [x, .dat (.int f), y, z] = some (.ok (), [x, .dat (.int f), .dat (L1 q.1), .dat (.int q.2.toNat)]) := by
      rw [← hn]; rfl
    have e3 : lcmL f (perN (q :: l)) = lcmL (f / Nat.gcd f q.2.toNat * q.2.toNat) (perN l) := lcmL_cons _ _ _
    rw [e3]
    exact ⟨y', z', loopF_nx e2 t ih⟩
theorem round_run {B : D} {bs : List D} {v : Int} {y z : Sl} (hb : seqI B = some bs) (e : loopF (gTupD 2 (gMore (gSet 2) (gMore (gSet 3) gNone))) roB bs [.dat B, .dat (.int 1), .un, .un] = some (.ok .nx, [.dat B, .dat (.int v), y, z])) : F_law_round_of [B] = some (.ok (.dat (.int v))) := by
  refine runDef_to (f := .rt (.dat (.int v))) (Γ := [.dat B, .un, .un, .un]) (Γ' := [.dat B, .dat (.int v), y, z]) rfl ?_ rfl
  refine sSeq_to (Γ' := [.dat B, .dat (.int 1), .un, .un]) (by simp [bnd_ap]) ?_
  exact sSeq_to (sFor_to (Γ1 := [.dat B, .dat (.int 1), .un, .un]) (ds := bs) (by simp [bnd_ap, hb]) e) (by simp [bnd_ap])
theorem round_ok {l : List (Nat × Int)} (hp : ∀ q ∈ l, 1 ≤ q.2 ∧ q.2 ≤ 30) : F_law_round_of [bellsD l] = some (.ok (.dat (.int (lcmL 1 (perN l))))) := by
  obtain ⟨y, z, e⟩ := ro_loop (.dat (bellsD l)) l 1 .un .un (by decide) hp
  exact round_run rfl e
theorem roundL_ok {l : List (Nat × Int)} (hp : ∀ q ∈ l, 1 ≤ q.2 ∧ q.2 ≤ 30) : F_law_round_of [.lst (l.map bellD)] = some (.ok (.dat (.int (lcmL 1 (perN l))))) := by
  obtain ⟨y, z, e⟩ := ro_loop (.dat (.lst (l.map bellD))) l 1 .un .un (by decide) hp
  exact round_run rfl e
/-! ### all texts of names of bells -/
theorem sortedF_strs (xs : List Str) : sortedF [.lst (xs.map .str)] = some (.own (.lst ((xs.mergeSort strLe).map .str))) := by
  have h : sortsB (xs.map .str) = true := by
    unfold sortsB
    simp only [Bool.and_eq_true, Bool.or_eq_true, List.all_eq_true, List.mem_map, forall_exists_index, and_imp, forall_apply_eq_imp_iff₂]
    exact ⟨⟨fun a _ => rfl, fun a _ b _ => rfl⟩, .inr fun a _ => trivial⟩
  show (if _ then _ else _) = _
  rw [if_pos h, sortD_strs]
noncomputable abbrev seB : M Fl := (sSet 1 (sBin addD (sVar 1) (sLc [4] (sIter (sVar 1)) (gSet 4) (DL.ret true) (sBin addD (sVar 4) (sVar 2)))))
def addN (c : Nat) (ss : List (List Nat)) : List (List Nat) := ss ++ ss.map (· ++ [c])
def unD : D → List Nat
  | .str x => x.cps.toList
  | _ => []
theorem unD_S (a : List Nat) : unD (sD a) = a := mkS_list a
theorem se_turn {c : Nat} {ss : List (List Nat)} (hl : ss.length ≤ 100) (hs : ∀ a ∈ ss, a.length ≤ 100) (x0 x3 : Sl) : seB [x0, .own (.lst (ss.map sD)), .dat (L1 c), x3, .un] = some (.ok .nx, [x0, .own (.lst ((addN c ss).map sD)), .dat (L1 c), x3, .un]) := by
  have e := loopL_map (g := gSet 4) (ce := cap (sBin addD (sVar 4) (sVar 2))) (vs := [4]) (Γ0 := [x0, .dat (.lst (ss.map sD)), .dat (L1 c), x3, .un]) (f := fun d => sD (unD d ++ [c])) (ss.map sD) (fun d hd => by
    obtain ⟨a, ha, rfl⟩ := List.mem_map.mp hd
    refine ⟨[x0, .dat (.lst (ss.map sD)), .dat (L1 c), x3, .dat (sD a)], [x0, .dat (.lst (ss.map sD)), .dat (L1 c), x3, .dat (sD a)], rfl, ?_, rfl⟩
    rw [unD_S]
    have := add_S a [c] (by have := hs a ha; simp; omega)
    rw [← L1_is] at this
    generalize ss.map sD = S at *
    simp [bnd_ap, this]) (by rw [List.length_map]; omega)
  have e2 : (addN c ss).map sD = ss.map sD ++ (ss.map sD).map fun d => sD (unD d ++ [c]) := by
    unfold addN
    rw [List.map_append, List.map_map, List.map_map]
    refine congrArg (ss.map sD ++ ·) ?_
    exact List.map_congr_left fun a _ => by show sD (a ++ [c]) = sD (unD (sD a) ++ [c]); rw [unD_S]
  rw [e2]
  have e3 : (ss.map sD).length + ((ss.map sD).map fun d => sD (unD d ++ [c])).length ≤ 16777216 := by rw [List.length_map, List.length_map, List.length_map]; omega
  generalize (ss.map sD).map (fun d => sD (unD d ++ [c])) = T at *
  generalize ss.map sD = S at *
  simp [bnd_ap, e, e3]
/-- nothing, then parts of the names -/
def Parts (cs : List Nat) (ss : List (List Nat)) : Prop := ∃ rest, ss = [] :: rest ∧ ∀ a ∈ rest, a ≠ [] ∧ a.Sublist cs
theorem Parts.step {cs : List Nat} {ss : List (List Nat)} (h : Parts cs ss) (c : Nat) : Parts (cs ++ [c]) (addN c ss) := by
  obtain ⟨rest, rfl, h⟩ := h
  refine ⟨rest ++ [c] :: rest.map (· ++ [c]), by simp [addN], fun a ha => ?_⟩
  rcases List.mem_append.mp ha with ha | ha
  · exact ⟨(h a ha).1, (h a ha).2.trans (List.sublist_append_left _ _)⟩
  · rcases List.mem_cons.mp ha with rfl | ha
    · exact ⟨by simp, List.sublist_append_right _ _⟩
    · obtain ⟨d, hd, rfl⟩ := List.mem_map.mp ha
      exact ⟨by simp, (h d hd).2.append (List.Sublist.refl _)⟩
theorem se_loop (x0 : Sl) : ∀ (l : List (Nat × Int)) (cs : List Nat) (ss : List (List Nat)) (x2 x3 : Sl), Parts cs ss → ss.length * 2 ^ l.length ≤ 100 → cs.length + l.length ≤ 100 → ∃ y2 y3 ss', Parts (cs ++ l.map (·.1)) ss' ∧ ss'.length ≤ 100 ∧
    loopF (gTupD 2 (gMore (gSet 2) (gMore (gSet 3) gNone))) seB (l.map bellD) [x0, .own (.lst (ss.map sD)), x2, x3, .un] = some (.ok .nx, [x0, .own (.lst (ss'.map sD)), y2, y3, .un])
  | [], cs, ss, x2, x3, h, hl, hc => ⟨x2, x3, ss, by simpa using h, by simpa using hl, rfl⟩
  | q :: l, cs, ss, x2, x3, h, hl, hc => by
    have h100 : ss.length ≤ 100 := Nat.le_trans (Nat.le_mul_of_pos_right _ (Nat.two_pow_pos _)) hl
    simp only [List.length_cons] at hl hc
    have hs : ∀ a ∈ ss, a.length ≤ 100 := by
      obtain ⟨rest, rfl, h⟩ := h
      intro a ha
      rcases List.mem_cons.mp ha with rfl | ha
      · simp
      · have := (h a ha).2.length_le; omega
    have t := se_turn (c := q.1) h100 hs x0 (.dat (.int q.2))
    obtain ⟨y2, y3, ss', h1, h2, ih⟩ := se_loop x0 l (cs ++ [q.1]) (addN q.1 ss) (.dat (L1 q.1)) (.dat (.int q.2)) (h.step q.1) (by
      unfold addN
      rw [List.length_append, List.length_map, ← Nat.two_mul, Nat.mul_comm 2, Nat.mul_assoc, ← Nat.pow_succ']
      exact hl) (by rw [List.length_append, List.length_singleton]; omega)
    refine ⟨y2, y3, ss', by simpa using h1, h2, ?_⟩
    have e2 : gTupD 2 (gMore (gSet 2) (gMore (gSet 3) gNone)) (bellD q) [x0, .own (.lst (ss.map sD)), x2, x3, .un] = some (.ok (), [x0, .own (.lst (ss.map sD)), .dat (L1 q.1), .dat (.int q.2), .un]) := rfl
    exact loopF_nx e2 t ih
theorem sets_run {B : D} {bs S : List D} {T : D} {y2 y3 : Sl} (hb : seqI B = some bs) (e : loopF (gTupD 2 (gMore (gSet 2) (gMore (gSet 3) gNone))) seB bs [.dat B, .own (.lst [.str ""]), .un, .un, .un] = some (.ok .nx, [.dat B, .own (.lst (.str "" :: S)), y2, y3, .un])) (hs : sortedF [.lst S] = some (.own T)) : F_law_sets [B] = some (.ok (.own T)) := by
  refine runDef_to (f := .rt (.own T)) (Γ := [.dat B, .un, .un, .un, .un]) (Γ' := [.dat B, .own (.lst (.str "" :: S)), y2, y3, .un]) rfl ?_ rfl
  refine sSeq_to (Γ' := [.dat B, .own (.lst [.str ""]), .un, .un, .un]) (by simp [bnd_ap, mkLst_ok]) ?_
  refine sSeq_to (sFor_to (Γ1 := [.dat B, .own (.lst [.str ""]), .un, .un, .un]) (ds := bs) (by simp [bnd_ap, hb]) e) ?_
  have hc := cut_from (D.str "" :: S) (v := 1) (by decide)
  have hc' : cutD (D.str "" :: S) (some 1) none = S := hc
  simp [bnd_ap, hc', hs]
theorem sets_ok {l : List (Nat × Int)} (b : BellsT l) : ∃ ys : List (List Nat), ys.length ≤ 100 ∧ (∀ a ∈ ys, a ≠ [] ∧ a.Sublist (l.map (·.1))) ∧ F_law_sets [bellsD l] = some (.ok (.own (.lst (ys.map sD)))) := by
  have h5 := b.hi
  have hp : 2 ^ l.length ≤ 32 := Nat.pow_le_pow_right (by decide) h5
  obtain ⟨y2, y3, ss', ⟨rest, rfl, h1⟩, h2, e⟩ := se_loop (.dat (bellsD l)) l [] [[]] .un .un ⟨[], rfl, by simp⟩ (by simp; omega) (by simp; omega)
  rw [List.nil_append] at h1
  have hs := sortedF_strs (rest.map mkS)
  have hpm : ((rest.map mkS).mergeSort strLe).Perm (rest.map mkS) := List.mergeSort_perm _ _
  rw [List.map_map] at hs
  simp only [List.length_cons] at h2
  refine ⟨((rest.map mkS).mergeSort strLe).map fun x => x.cps.toList, by rw [List.length_map, hpm.length_eq, List.length_map]; omega, fun a ha => ?_, ?_⟩
  · obtain ⟨x, hx, rfl⟩ := List.mem_map.mp ha
    obtain ⟨a, hm, rfl⟩ := List.mem_map.mp (hpm.mem_iff.mp hx)
    rw [mkS_list]
    exact h1 a hm
  · have e3 : (((rest.map mkS).mergeSort strLe).map fun x => x.cps.toList).map sD = ((rest.map mkS).mergeSort strLe).map .str := by
      rw [List.map_map]
      exact List.map_congr_left fun x _ => by show D.str (mkS x.cps.toList) = D.str x; rw [mkS_eta]
    rw [e3]
    have e4 : ([[]] : List (List Nat)).map sD = [.str ""] := by rw [e_empty]; rfl
    have e5 : ([] :: rest).map sD = .str "" :: rest.map (D.str ∘ mkS) := by rw [e_empty]; rfl
    rw [e4, e5] at e
    exact sets_run rfl e hs
end Law

namespace Law
open PySem DL G
/-! ### which bells a text names -/
theorem filter_sub : ∀ {a cs : List Nat}, a.Sublist cs → cs.Nodup → cs.filter (fun c => decide (c ∈ a)) = a
  | _, _, .slnil, _ => rfl
  | a, c :: cs, .cons _ h, hn => by
    rw [List.nodup_cons] at hn
    have : c ∉ a := fun z => hn.1 (h.subset z)
    rw [List.filter_cons_of_neg (by simpa using this), filter_sub h hn.2]
  | c :: a, _ :: cs, .cons₂ _ h, hn => by
    rw [List.nodup_cons] at hn
    rw [List.filter_cons_of_pos (by simp)]
    congr 1
    have : cs.filter (fun d => decide (d ∈ c :: a)) = cs.filter fun d => decide (d ∈ a) := List.filter_congr fun d hd => by
      have : d ≠ c := fun z => hn.1 (z ▸ hd)
      simp [this]
    rw [this, filter_sub h hn.2]
noncomputable abbrev icC : M Rf := (sStr1 joinF (sK (.str "")) (sLc [2] (sIter (sVar 0)) (gSet 2) (sB (sBin inD (sVar 2) (sVar 1))) (sVar 2)))
def unL : D → Nat
  | .str x => x.cps.toList.headD 0
  | _ => 0
theorem unL_1 (c : Nat) : unL (L1 c) = c := rfl
theorem filt_L1 (p : Nat → Bool) (cs : List Nat) : (cs.map L1).filter (fun d => p (unL d)) = (cs.filter p).map L1 := by
  rw [List.filter_map]
  congr 1
theorem ic_ok {cs a : List Nat} (hc : cs.length ≤ 100) : icC [.dat (sD cs), .dat (sD a), .un] = some (.ok (.dat (sD (cs.filter fun c => decide (c ∈ a)))), [.dat (sD cs), .dat (sD a), .un]) := by
  have e := loopL_fmk (g := gSet 2) (ct := sB (sBin inD (sVar 2) (sVar 1))) (ce := cap (sVar 2)) (vs := [2]) (Γ0 := [.dat (sD cs), .dat (sD a), .un]) (p := fun d => decide (unL d ∈ a)) (f := id) (cs.map L1) [] (fun d hd => by
    obtain ⟨c, _, rfl⟩ := List.mem_map.mp hd
    have h := in_S c a
    generalize sD a = A at *
    generalize sD cs = C at *
    exact ⟨[.dat C, .dat A, .dat (L1 c)], [.dat C, .dat A, .dat (L1 c)], rfl, by rw [unL_1]; simp [bnd_ap, h], fun _ => rfl, fun _ => ⟨_, rfl, rfl⟩⟩) (by rw [List.length_map, List.length_nil]; omega)
  rw [filt_L1 (fun c => decide (c ∈ a)), List.map_id, List.nil_append] at e
  have e2 := join_S (cs.filter fun c => decide (c ∈ a)) (by have := List.length_filter_le (fun c => decide (c ∈ a)) cs; omega)
  have e3 := seq_S cs (by omega)
  generalize (cs.filter fun c => decide (c ∈ a)) = f at *
  generalize f.map L1 = fL at *
  generalize cs.map L1 = cL at *
  generalize sD f = F at *
  generalize sD a = A at *
  generalize sD cs = C at *
  simp [bnd_ap, e3, e, e2]
theorem isi_S (a : List Nat) : isiG [sD a, .ty "str"] = some (.dat (.bl true)) := by
  unfold sD
  simp [isiG, isiOF, tyN]
theorem chime_ok {cs a : List Nat} (hc : cs.length ≤ 100) (hn : cs.Nodup) (ha : a ≠ []) (hs : a.Sublist cs) : F_is_chime [sD cs, sD a] = some (.ok (.dat (.bl true))) := by
  have e1 := isi_S a
  have e2 := eq_S a []
  rw [decide_eq_false ha, ← e_empty] at e2
  have e3 := len_S a (by have := hs.length_le; omega)
  have e4 := len_S cs (by omega)
  have e5 := ic_ok (a := a) hc
  rw [filter_sub hs hn] at e5
  have e6 := eq_S a a
  rw [decide_eq_true rfl] at e6
  have e7 : ¬ (cs.length : Int) < (a.length : Int) := by have := hs.length_le; omega
  generalize sD a = A at *
  generalize sD cs = C at *
  refine runDef_to (f := .rt (.dat (.bl true))) (Γ := [.dat C, .dat A, .un]) (Γ' := [.dat C, .dat A, .un]) rfl ?_ rfl
  refine sSeq_to (Γ' := [.dat C, .dat A, .un]) (by simp [bnd_ap, e1, e2, e3, e4, e7]) ?_
  exact sRet_to (sBin_dd e5 rfl e6)
def idxL (cs a : List Nat) : List Nat := ((cs.zipIdx).filter fun q => decide (q.1 ∈ a)).map (·.2)
theorem filt_zi (a : List Nat) : ∀ qs : List (Nat × Nat), ((qs.map znD).filter fun d => decide (unL (sndD d) ∈ a)).map fstD = ((qs.filter fun q => decide (q.1 ∈ a)).map (·.2)).map natI
  | [] => rfl
  | q :: qs => by
    have ih := filt_zi a qs
    rw [List.map_cons]
    have e : unL (sndD (znD q)) = q.1 := rfl
    by_cases h : q.1 ∈ a
    · rw [List.filter_cons_of_pos (by rw [e]; exact decide_eq_true h), List.filter_cons_of_pos (by exact decide_eq_true h), List.map_cons, List.map_cons, List.map_cons, ih]; rfl
    · rw [List.filter_cons_of_neg (by rw [e]; simpa using h), List.filter_cons_of_neg (by simpa using h), ih]
theorem members_run {so tw : D} {cs a : List Nat} (hc : cs.length ≤ 100) (h1 : isInsB k_Song "" so = true) (h2 : F_Song_tower [so] = some (.ok (.dat tw))) (h3 : isInsB k_Tower "" tw = true) (h4 : F_Tower_names [tw] = some (.ok (.dat (.str (nmD cs))))) (h5 : F_is_chime [.str (nmD cs), sD a] = some (.ok (.dat (.bl true)))) :
    F_members_of [so, sD a] = some (.ok (.own (.lst ((idxL cs a).map natI)))) := by
  have e := fun (x0 : D) => loopL_fmk (g := gTupD 2 (gMore (gSet 2) (gMore (gSet 3) gNone))) (ct := sB (sBin inD (sVar 3) (sVar 1))) (ce := cap (sVar 2)) (vs := [2, 3]) (Γ0 := [.dat x0, .dat (sD a), .un, .un]) (p := fun d => decide (unL (sndD d) ∈ a)) (f := fstD) (cs.zipIdx.map znD) [] (fun d hd => by
    obtain ⟨q, _, rfl⟩ := List.mem_map.mp hd
    have h := in_S q.1 a
    generalize sD a = A at *
    exact ⟨[.dat x0, .dat A, .dat (natI q.2), .dat (L1 q.1)], [.dat x0, .dat A, .dat (natI q.2), .dat (L1 q.1)], rfl, by
      show _ = some (Except.ok (decide (q.1 ∈ a)), _)
      simp [bnd_ap, h], fun _ => rfl, fun _ => ⟨[.dat x0, .dat A, .dat (natI q.2), .dat (L1 q.1)], rfl, rfl⟩⟩) (by rw [List.length_map, List.length_zipIdx, List.length_nil]; omega)
  simp only [filt_zi, List.nil_append] at e
  have e3 := enum_nm cs
  have e4 : ((cs.zipIdx.filter fun q => decide (q.1 ∈ a)).map (·.2)).map natI = (idxL cs a).map natI := rfl
  rw [e4] at e
  generalize (idxL cs a).map natI = I at *
  generalize cs.zipIdx.map znD = Z at *
  generalize nmD cs = N at *
  generalize sD a = A at *
  simp [F_members_of, runDef_ap, c_members_of, st0, bnd_ap, h1, h2, h3, h4, h5, e3, e]
theorem mem_idxL {cs a : List Nat} {i : Nat} (h : i ∈ idxL cs a) : i < cs.length ∧ ∃ c, cs[i]? = some c ∧ c ∈ a := by
  unfold idxL at h
  obtain ⟨⟨c, j⟩, hq, rfl⟩ := List.mem_map.mp h
  obtain ⟨h1, h2⟩ := List.mem_filter.mp hq
  obtain ⟨h3, h4, h5⟩ := List.mem_zipIdx h1
  simp only [Nat.zero_add, Nat.sub_zero] at h4 h5
  exact ⟨h4, c, by rw [List.getElem?_eq_getElem h4, h5], of_decide_eq_true h2⟩
theorem idxL_mem {cs a : List Nat} {i c : Nat} (h : cs[i]? = some c) (g : c ∈ a) : i ∈ idxL cs a := by
  unfold idxL
  refine List.mem_map.mpr ⟨(c, i), List.mem_filter.mpr ⟨?_, decide_eq_true g⟩, rfl⟩
  exact List.mem_zipIdx_iff_getElem?.mpr h
theorem idxL_len (cs a : List Nat) : (idxL cs a).length ≤ cs.length := by
  unfold idxL
  rw [List.length_map]
  have := List.length_filter_le (fun q : Nat × Nat => decide (q.1 ∈ a)) cs.zipIdx
  rwa [List.length_zipIdx] at this
/-! ### do they meet -/
noncomputable abbrev dmA : M Rf := (sCB allF (oCons (sLc2 [5, 6] [6] (sIter (sVar 1)) (gSet 5) (DL.ret true) (sIter (sVar 1)) (gSet 6) (sB (sBin ltD (sVar 5) (sVar 6))) (sBin getD2 (sVar 2) (sTup (sCons (cap (sVar 5)) (sCons (cap (sVar 6)) sNil))))) oNil))
theorem dm_inner {E : D} {ev : Nat → Nat → Bool} {ms : List Nat} (hl : ms.length ≤ 100) {i : Nat} (he : ∀ j ∈ ms, i < j → getD2 E (prD (i, j)) = some (.dat (.bl (ev i j)))) (x0 x1 x3 x4 : Sl) (acc : List D) (ha : acc.length ≤ 900000) :
    loopL (gSet 6) (sB (sBin ltD (sVar 5) (sVar 6))) (cap (sBin getD2 (sVar 2) (sTup (sCons (cap (sVar 5)) (sCons (cap (sVar 6)) sNil))))) [6] (ms.map natI) acc [x0, x1, .own E, x3, x4, .dat (natI i), .un] = some (.ok (acc ++ ((ms.filter fun j => decide (i < j)).map fun j => D.bl (ev i j))), [x0, x1, .own E, x3, x4, .dat (natI i), .un]) := by
  have e := loopL_fmk (g := gSet 6) (ct := sB (sBin ltD (sVar 5) (sVar 6))) (ce := cap (sBin getD2 (sVar 2) (sTup (sCons (cap (sVar 5)) (sCons (cap (sVar 6)) sNil))))) (vs := [6]) (Γ0 := [x0, x1, .own E, x3, x4, .dat (natI i), .un]) (p := fun d => decide (i < iN d)) (f := fun d => .bl (ev i (iN d))) (ms.map natI) acc (fun d hd => by
    obtain ⟨k, hk, rfl⟩ := List.mem_map.mp hd
    refine ⟨[x0, x1, .own E, x3, x4, .dat (natI i), .dat (natI k)], [x0, x1, .own E, x3, x4, .dat (natI i), .dat (natI k)], rfl, by rw [iN_nat]; simp [bnd_ap, natI], fun _ => rfl, fun hp => ⟨[x0, x1, .own E, x3, x4, .dat (natI i), .dat (natI k)], ?_, rfl⟩⟩
    rw [iN_nat] at hp ⊢
    have h := he k hk (of_decide_eq_true hp)
    have h' : getD2 E (.tup [natI i, natI k]) = some (.dat (.bl (ev i k))) := h
    simp [bnd_ap, mkTup_ok, h']) (by rw [List.length_map]; omega)
  rw [e, filt_nat (fun k => decide (i < k)), List.map_map]
  congr 5
theorem dm_all {E : D} {ev : Nat → Nat → Bool} {ms : List Nat} (hl : ms.length ≤ 100) (he : ∀ i ∈ ms, ∀ j ∈ ms, i < j → getD2 E (prD (i, j)) = some (.dat (.bl (ev i j)))) (x0 x3 x4 : Sl) :
    dmA [x0, .dat (.lst (ms.map natI)), .own E, x3, x4, .un, .un] = some (.ok (.dat (.bl ((prsB ev ms).all id))), [x0, .dat (.lst (ms.map natI)), .own E, x3, x4, .un, .un]) := by
  have e := loopL2_fm (g := gSet 5) (ct := DL.ret true) (ci1 := sIter (sVar 1)) (g1 := gSet 6) (ct1 := sB (sBin ltD (sVar 5) (sVar 6))) (ce := cap (sBin getD2 (sVar 2) (sTup (sCons (cap (sVar 5)) (sCons (cap (sVar 6)) sNil))))) (vs := [5, 6]) (vs1 := [6]) (Γ0 := [x0, .dat (.lst (ms.map natI)), .own E, x3, x4, .un, .un]) (f := fun d => (ms.filter fun j => decide (iN d < j)).map fun j => .bl (ev (iN d) j)) (ms.map natI) [] (fun d hd => by
      rw [List.length_map]
      exact Nat.le_trans (List.length_filter_le _ _) (by omega)) (fun d hd => by
      obtain ⟨i, hi, rfl⟩ := List.mem_map.mp hd
      refine ⟨[x0, .dat (.lst (ms.map natI)), .own E, x3, x4, .dat (natI i), .un], [x0, .dat (.lst (ms.map natI)), .own E, x3, x4, .dat (natI i), .un], ms.map natI, [x0, .dat (.lst (ms.map natI)), .own E, x3, x4, .dat (natI i), .un], rfl, rfl, rfl, fun acc ha => ⟨[x0, .dat (.lst (ms.map natI)), .own E, x3, x4, .dat (natI i), .un], ?_, rfl⟩⟩
      rw [iN_nat]
      exact dm_inner hl (fun j hj h => he i hi j hj h) x0 (.dat (.lst (ms.map natI))) x3 x4 acc ha) (by rw [List.length_map, List.length_nil]; omega)
  have e2 : ([] : List D) ++ (ms.map natI).flatMap (fun d => (ms.filter fun j => decide (iN d < j)).map fun j => D.bl (ev (iN d) j)) = (prsB ev ms).map .bl := by
    unfold prsB
    rw [List.nil_append, List.flatMap_map, List.map_flatMap]
    congr 1
    funext i
    rw [iN_nat, List.map_map]; rfl
  rw [e2] at e
  have e3 := allF_bls (prsB ev ms)
  generalize (prsB ev ms).map D.bl = L at *
  generalize (prsB ev ms).all id = A at *
  generalize ms.map natI = M at *
  simp [bnd_ap, e, e3]
theorem dm_dict {n : Nat} {pl : List Int} (h5 : n ≤ 5) (hl : pl.length = (pairs n).length) (x0 x1 x2 x5 x6 : Sl) : loopDc (gTupD 2 (gMore (gSet 3) (gMore (gSet 4) gNone))) (DL.ret true) (cap (sVar 3)) (cap (sBin eqD (sBin modD (sVar 4) (sK (.int 2))) (sK (.int 0)))) [3, 4] (zipD2 ((pairs n).map prD) (pl.map .int)) [] [] [x0, x1, x2, .un, .un, x5, x6] =
    some (.ok ((pairs n).map prD, pl.map fun w => .bl (decide (w % 2 = 0))), [x0, x1, x2, .un, .un, x5, x6]) := by
  have e := loopDc_new (g := gTupD 2 (gMore (gSet 3) (gMore (gSet 4) gNone))) (ck := cap (sVar 3)) (cv := cap (sBin eqD (sBin modD (sVar 4) (sK (.int 2))) (sK (.int 0)))) (vs := [3, 4]) (Γ0 := [x0, x1, x2, .un, .un, x5, x6]) (fk := fstD) (fv := evV) (K := tupK) okPut_tup (((pairs n).zip pl).map pwD) [] [] (fun d hd => by
    obtain ⟨⟨p, w⟩, _, rfl⟩ := List.mem_map.mp hd
    exact ⟨[x0, x1, x2, .dat (prD p), .dat (.int w), x5, x6], [x0, x1, x2, .dat (prD p), .dat (.int w), x5, x6], [x0, x1, x2, .dat (prD p), .dat (.int w), x5, x6], rfl, rfl, by simp [bnd_ap, evV, pwD], rfl⟩) (fun d hd => by
    obtain ⟨⟨p, w⟩, _, rfl⟩ := List.mem_map.mp hd
    rfl) rfl (by rw [List.nil_append, zip_k hl]; exact pw_pairs h5) (by
    have := pairs_len h5
    rw [List.length_map, List.length_zip, List.length_nil]; omega)
  rw [zip_pw, e, zip_k hl, zip_v hl]
  rfl
theorem meet_run {so tw : D} {n : Nat} {pl : List Int} {ms : List Nat} (hn : n ≤ 5) (hl : pl.length = (pairs n).length) (hm : ms.length ≤ 100) (hms : ∀ i ∈ ms, i < n) (h1 : isInsB k_Song "" so = true) (h2 : F_Song_tower [so] = some (.ok (.dat tw))) (h3 : lenOF k_Tower F_Tower___len [tw] = some (.dat (.int (n : Nat)))) (h4 : F_Song_pattern [so] = some (.ok (.dat (.tup (pl.map .int))))) :
    F_do_meet [so, .lst (ms.map natI)] = some (.ok (.dat (.bl ((prsB (evB pl n) ms).all id)))) := by
  have e1 := pairs_ok hn
  have e2 : zipA2 [.lst ((pairs n).map prD), .tup (pl.map .int)] = some (zipD2 ((pairs n).map prD) (pl.map .int)) := rfl
  have e3 := dm_dict hn hl (.dat so) (.dat (.lst (ms.map natI))) .un .un .un
  have e4 := dm_all (E := evD pl n) (ev := evB pl n) hm (fun i hi j hj h => ev_get h (hms j hj) hl) (.dat so) .un .un
  have e5 : sLenO k_Tower F_Tower___len (sCons (cap (sProp k_Song F_Song_tower (sVar 0))) sNil) [.dat so, .dat (.lst (ms.map natI)), .un, .un, .un, .un, .un] = some (.ok (.dat (.int (n : Nat))), [.dat so, .dat (.lst (ms.map natI)), .un, .un, .un, .un, .un]) := sLenO_ok (d := tw) (by simp [bnd_ap, h1, h2]) h3
  have e6 : evD pl n = .dic ((pairs n).map prD) (pl.map fun w => .bl (decide (w % 2 = 0))) := rfl
  rw [e6] at e4
  generalize zipD2 ((pairs n).map prD) (pl.map .int) = Z at *
  generalize (pairs n).map prD = KS at *
  generalize (pl.map fun w => D.bl (decide (w % 2 = 0))) = VS at *
  generalize pl.map D.int = PL at *
  generalize (prsB (evB pl n) ms).all id = A at *
  generalize ms.map natI = M at *
  refine runDef_to (f := .rt (.dat (.bl A))) (Γ := [.dat so, .dat (.lst M), .un, .un, .un, .un, .un]) (Γ' := [.dat so, .dat (.lst M), .own (.dic KS VS), .un, .un, .un, .un]) rfl ?_ rfl
  refine sSeq_to (Γ' := [.dat so, .dat (.lst M), .own (.dic KS VS), .un, .un, .un, .un]) ?_ ?_
  · simp [bnd_ap, -sLenO_ap, e5, e1, h1, h4, e2, e3]
  · rw [sRet_ap, bnd_to e4]; rfl
/-! ### .. in plain words -/
theorem lk_fun (w : Nat × Nat → Bool) : ∀ (ps : List (Nat × Nat)) (p : Nat × Nat), p ∈ ps → lkD (ps.map prD) (ps.map fun q => .bl (w q)) (prD p) = some (.bl (w p))
  | [], _, h => by cases h
  | q :: ps, p, h => by
    show (if kE (prD q) (prD p) then some (D.bl (w q)) else lkD (ps.map prD) (ps.map fun q => .bl (w q)) (prD p)) = _
    rw [kE_pr]
    by_cases e : q = p
    · rw [decide_eq_true e, e]; rfl
    · rw [decide_eq_false e, if_neg (by simp)]
      refine lk_fun w ps p ?_
      rcases List.mem_cons.mp h with h | h
      · exact absurd h.symm e
      · exact h
theorem evB_places {ps rs : List Nat} {i j : Nat} (h : i < j) (g : j < ps.length) : evB (places ps rs) ps.length i j = decide (plc ps rs i j % 2 = 0) := by
  unfold evB places
  have e := lk_fun (fun q => decide (plc ps rs q.1 q.2 % 2 = 0)) (pairs ps.length) (i, j) (pairs_mem h g)
  rw [List.map_map]
  have e2 : ((fun w : Int => D.bl (decide (w % 2 = 0))) ∘ fun p : Nat × Nat => plc ps rs p.1 p.2) = fun q => D.bl (decide (plc ps rs q.1 q.2 % 2 = 0)) := rfl
  rw [e2, e]
/-- two bells strike together at some time -/
def Fit (ps rs : List Nat) (i j : Nat) : Prop := ((Nat.gcd (ps.getD i 0) (ps.getD j 0) : Nat) : Int) ∣ ((rs.getD i 0 : Nat) : Int) - ((rs.getD j 0 : Nat) : Int)
theorem Fit.symm {ps rs : List Nat} {i j : Nat} (h : Fit ps rs i j) : Fit ps rs j i := by
  unfold Fit at *
  rw [Nat.gcd_comm, show ((rs.getD j 0 : Nat) : Int) - ((rs.getD i 0 : Nat) : Int) = -(((rs.getD i 0 : Nat) : Int) - ((rs.getD j 0 : Nat) : Int)) by omega]
  exact (Int.dvd_neg).mpr h
theorem prs_all {ev : Nat → Nat → Bool} {ms : List Nat} : (prsB ev ms).all id = true ↔ ∀ i ∈ ms, ∀ j ∈ ms, i < j → ev i j = true := by
  unfold prsB
  simp only [List.all_eq_true, List.mem_flatMap, List.mem_map, List.mem_filter, decide_eq_true_eq, id_eq]
  constructor
  · intro h i hi j hj hij
    exact h _ ⟨i, hi, j, ⟨hj, hij⟩, rfl⟩
  · rintro h b ⟨i, hi, j, ⟨hj, hij⟩, rfl⟩
    exact h i hi j hj hij
theorem meet_iff {ps rs : List Nat} (hp : ∀ p ∈ ps, 0 < p ∧ p ≤ 1000) {ms : List Nat} (hm : ∀ i ∈ ms, i < ps.length) : (prsB (evB (places ps rs) ps.length) ms).all id = true ↔ ∀ i ∈ ms, ∀ j ∈ ms, i < j → Fit ps rs i j := by
  rw [prs_all]
  have key : ∀ i ∈ ms, ∀ j ∈ ms, i < j → (evB (places ps rs) ps.length i j = true ↔ Fit ps rs i j) := fun i hi j hj hij => by
    rw [evB_places hij (hm j hj), plc_par rs j (getD_pos hp (hm i hi)), decide_eq_true_eq]
    unfold Fit
    exact (Int.dvd_iff_emod_eq_zero).symm
  constructor
  · intro h i hi j hj hij
    exact (key i hi j hj hij).mp (h i hi j hj hij)
  · intro h i hi j hj hij
    exact (key i hi j hj hij).mpr (h i hi j hj hij)
end Law

namespace Law
open PySem DL G
/-- a time at which bells strike together, below their common multiple -/
structure Met (ps rs ms : List Nat) (t : Nat) : Prop where
  lt : t < lcmL 1 (ms.map fun i => ps.getD i 0)
  at_ : ∀ i ∈ ms, t % ps.getD i 0 = rs.getD i 0
theorem lcmL_snoc (f : Nat) (qs : List Nat) (p : Nat) : lcmL f (qs ++ [p]) = Nat.lcm (lcmL f qs) p := by
  rw [lcmL_append, lcmL_cons']; rfl
theorem fit_all {ps rs done : List Nat} {i t : Nat} (hp : ∀ j ∈ done ++ [i], 0 < ps.getD j 0) (hm : ∀ j ∈ done, t % ps.getD j 0 = rs.getD j 0) (hf : ∀ j ∈ done, Fit ps rs j i) : ((Nat.gcd (lcmL 1 (done.map fun i => ps.getD i 0)) (ps.getD i 0) : Nat) : Int) ∣ ((rs.getD i 0 : Nat) : Int) - (t : Int) := by
  rw [Int.ofNat_dvd_left]
  refine gcd_lcmL_dvd (hp i (by simp)) _ 1 (by decide) (fun p h => ?_) (by rw [Nat.gcd_one_left]; exact Nat.one_dvd _) fun p h => ?_
  · obtain ⟨j, hj, rfl⟩ := List.mem_map.mp h
    exact hp j (by simp [hj])
  · obtain ⟨j, hj, rfl⟩ := List.mem_map.mp h
    have h1 := hf j hj
    have h2 := dvd_of_mod (hm j hj)
    have h3 : ((Nat.gcd (ps.getD j 0) (ps.getD i 0) : Nat) : Int) ∣ (t : Int) - (rs.getD j 0 : Nat) := Int.dvd_trans (Int.natCast_dvd_natCast.mpr (Nat.gcd_dvd_left _ _)) h2
    unfold Fit at h1
    rw [← Int.ofNat_dvd_left]
    have h4 := Int.dvd_add h1 h3
    rw [show ((rs.getD j 0 : Nat) : Int) - ((rs.getD i 0 : Nat) : Int) + ((t : Int) - (rs.getD j 0 : Nat)) = -(((rs.getD i 0 : Nat) : Int) - (t : Int)) by omega] at h4
    exact Int.dvd_neg.mp h4
/-! ### .. of a song -/
theorem song_tower (tw R W C : D) : F_Song_tower [songI tw R W C] = some (.ok (.dat tw)) := by simp [F_Song_tower, runDef_ap, c_Song_tower, st0, bnd_ap, songI]
theorem len_tower (l : List (Nat × Int)) : F_Tower___len [towerD l] = some (.ok (.dat (.int l.length))) := by
  have : lenF [bellsD l] = some (.dat (.int (l.length : Nat))) := by
    show some (Rf.dat (.int ((l.map bellD).length : Nat))) = _
    rw [List.length_map]
  simp [F_Tower___len, runDef_ap, c_Tower___len, st0, bnd_ap, towerD, this, -lenF_tup]
theorem lenO_tower {l : List (Nat × Int)} (b : BellsT l) : lenOF k_Tower F_Tower___len [towerD l] = some (.dat (.int (l.length : Nat))) := by
  have := b.hi
  rw [lenOF_ap, if_pos (isIns_tower l), len_tower]
  show (if 0 ≤ (l.length : Int) ∧ (l.length : Int) < 9223372036854775808 then some (Rf.dat (.int (l.length : Int))) else none) = _
  rw [if_pos ⟨by omega, by omega⟩]
def nmL (l : List (Nat × Int)) : List Nat := l.map (·.1)
theorem nm_len (l : List (Nat × Int)) : (nmL l).length = l.length := List.length_map _
theorem nm_nodup {l : List (Nat × Int)} (b : BellsT l) : (nmL l).Nodup := b.asc.imp fun {a c} h => by omega
theorem members_ok {l : List (Nat × Int)} (b : BellsT l) (rs : List Nat) {a : List Nat} (ha : a ≠ []) (hs : a.Sublist (nmL l)) : F_members_of [songD l rs, sD a] = some (.ok (.own (.lst ((idxL (nmL l) a).map natI)))) := by
  have h5 := b.hi
  have hl := nm_len l
  exact members_run (tw := towerD l) (by omega) (isIns_songI _ _ _ _) (song_tower _ _ _ _) (isIns_tower l) (pr_names l) (chime_ok (by omega) (nm_nodup b) ha hs)
theorem idx_lt {l : List (Nat × Int)} {a : List Nat} {i : Nat} (h : i ∈ idxL (nmL l) a) : i < l.length := by
  have := (mem_idxL h).1
  rwa [nm_len] at this
theorem domeet_ok {l : List (Nat × Int)} (b : BellsT l) (rs : List Nat) (a : List Nat) : F_do_meet [songD l rs, .lst ((idxL (nmL l) a).map natI)] = some (.ok (.dat (.bl ((prsB (evB (places (perN l) rs) l.length) (idxL (nmL l) a)).all id)))) := by
  have h5 := b.hi
  have hl := nm_len l
  exact meet_run (tw := towerD l) h5 (len_places l rs) (by have := idxL_len (nmL l) a; omega) (fun i hi => idx_lt hi) (isIns_songI _ _ _ _) (song_tower _ _ _ _) (lenO_tower b) (song_pattern _ _ _ _)
theorem fits_iff {l : List (Nat × Int)} (b : BellsT l) (rs : List Nat) (a : List Nat) : (prsB (evB (places (perN l) rs) l.length) (idxL (nmL l) a)).all id = true ↔ ∀ i ∈ idxL (nmL l) a, ∀ j ∈ idxL (nmL l) a, i < j → Fit (perN l) rs i j := by
  have h := meet_iff (rs := rs) (per_pos b) (ms := idxL (nmL l) a) fun i hi => by rw [len_pers]; exact idx_lt hi
  rwa [len_pers] at h
theorem RowP.at_ : ∀ {ps rs : List Nat}, RowP ps rs → ∀ i, i < ps.length → rs.getD i 0 < ps.getD i 0
  | [], [], _, i, h => by simp at h
  | p :: ps, r :: rs, h, 0, _ => by simpa using h.1
  | p :: ps, r :: rs, h, i + 1, g => by simpa using RowP.at_ h.2 i (by simpa using g)
theorem idx_nodup (cs a : List Nat) : (idxL cs a).Nodup := by
  unfold idxL
  have h : (cs.zipIdx.map (·.2)).Nodup := by rw [List.zipIdx_map_snd]; exact List.nodup_range'
  exact (List.Sublist.map _ List.filter_sublist).nodup h
theorem met_ex {ps rs : List Nat} : ∀ (ms done : List Nat) (t : Nat), (∀ i ∈ done ++ ms, 0 < ps.getD i 0 ∧ rs.getD i 0 < ps.getD i 0) → (∀ i ∈ done ++ ms, ∀ j ∈ done ++ ms, i ≠ j → Fit ps rs i j) → (done ++ ms).Nodup → Met ps rs done t → ∃ t' : Nat, Met ps rs (done ++ ms) t'
  | [], done, t, hp, hf, hd, m => ⟨t, by rw [List.append_nil]; exact m⟩
  | i :: ms, done, t, hp, hf, hd, m => by
    have hi := hp i (by simp)
    have hdp : ∀ p ∈ (done.map fun i => ps.getD i 0), 0 < p := fun p h => by
      obtain ⟨j, hj, rfl⟩ := List.mem_map.mp h
      exact (hp j (by simp [hj])).1
    have L0 : 0 < lcmL 1 (done.map fun i => ps.getD i 0) := lcmL_pos' _ 1 (by decide) hdp
    have hne : ∀ j ∈ done, j ≠ i := fun j hj z => by
      rw [List.nodup_append] at hd
      exact hd.2.2 j hj i (by simp) z
    have hfit := fit_all (ps := ps) (rs := rs) (done := done) (i := i) (t := t) (fun j hj => by
      rcases List.mem_append.mp hj with h | h
      · exact (hp j (by simp [h])).1
      · rw [List.mem_singleton] at h; subst h; exact hi.1) m.at_ fun j hj => hf j (by simp [hj]) i (by simp) (hne j hj)
    obtain ⟨k, k1, k2⟩ := near_ex L0 hi.1 hi.2 hfit
    have k3 := near_lt L0 hi.1 m.lt k1 k2
    have m' : Met ps rs (done ++ [i]) (t + k * lcmL 1 (done.map fun i => ps.getD i 0)) := by
      refine ⟨?_, fun j hj => ?_⟩
      · rw [List.map_append, List.map_singleton, lcmL_snoc]; exact k3
      · rcases List.mem_append.mp hj with h | h
        · obtain ⟨c, hc⟩ := (dvd_lcmL (done.map fun i => ps.getD i 0) 1).2 _ (List.mem_map.mpr ⟨j, h, rfl⟩)
          rw [hc, ← Nat.mul_assoc, Nat.mul_comm k, Nat.mul_assoc, Nat.add_mul_mod_self_left]
          exact m.at_ j h
        · rw [List.mem_singleton] at h; subst h; exact k1
    obtain ⟨t2, g1⟩ := met_ex ms (done ++ [i]) _ (by simpa using hp) (by simpa using hf) (by simpa using hd) m'
    exact ⟨t2, by simpa using g1⟩
theorem met_all {l : List (Nat × Int)} (b : BellsT l) {rs : List Nat} (h : RowP (perN l) rs) (a : List Nat) (fit : ∀ i ∈ idxL (nmL l) a, ∀ j ∈ idxL (nmL l) a, i < j → Fit (perN l) rs i j) : ∃ t, Met (perN l) rs (idxL (nmL l) a) t := by
  have fit2 : ∀ i ∈ idxL (nmL l) a, ∀ j ∈ idxL (nmL l) a, i ≠ j → Fit (perN l) rs i j := fun i hi j hj hij => by
    by_cases z : i < j
    · exact fit i hi j hj z
    · exact (fit j hj i hi (by omega)).symm
  obtain ⟨t, m⟩ := met_ex (ps := perN l) (rs := rs) (idxL (nmL l) a) [] 0 (fun i hi => by
    have hi := idx_lt (l := l) (by simpa using hi)
    exact ⟨(getD_pos (per_pos b) (by rw [len_pers]; exact hi)).1, h.at_ i (by rw [len_pers]; exact hi)⟩) (by simpa using fit2) (by simpa using idx_nodup _ _) ⟨(by show 0 < 1; decide), by simp⟩
  exact ⟨t, by simpa using m⟩
end Law

namespace Law
open PySem DL G
/-! ### what strikes, in plain words -/
theorem lcm_leB {B : Nat} : ∀ (ps : List Nat) (f : Nat), (∀ p ∈ ps, p ≤ B) → lcmL f ps ≤ f * B ^ ps.length
  | [], f, h => by show f ≤ f * B ^ 0; rw [Nat.pow_zero]; omega
  | p :: ps, f, h => by
    rw [lcmL_cons, List.length_cons, Nat.pow_succ]
    have ih := lcm_leB (B := B) ps (f / Nat.gcd f p * p) fun q hq => h q (by simp [hq])
    have h1 : f / Nat.gcd f p * p ≤ f * B := Nat.mul_le_mul (Nat.div_le_self _ _) (h p (by simp))
    have h2 : f / Nat.gcd f p * p * B ^ ps.length ≤ f * B * B ^ ps.length := Nat.mul_le_mul_right _ h1
    have h3 : f * B * B ^ ps.length = f * (B ^ ps.length * B) := by rw [Nat.mul_assoc, Nat.mul_comm B]
    omega
theorem mem_atL : ∀ {l : List (Nat × Int)} {rs : List Nat} {t c : Nat}, rs.length = l.length → (c ∈ atL l rs t ↔ ∃ i, (nmL l)[i]? = some c ∧ t % (perN l).getD i 0 = rs.getD i 0)
  | [], rs, t, c, h => by simp [atL, nmL]
  | q :: l, [], t, c, h => by simp at h
  | q :: l, r :: rs, t, c, h => by
    have ih := mem_atL (l := l) (rs := rs) (t := t) (c := c) (by simpa using h)
    have e1 : ∀ i, (nmL (q :: l))[i + 1]? = (nmL l)[i]? := fun i => rfl
    have e2 : ∀ i, (perN (q :: l)).getD (i + 1) 0 = (perN l).getD i 0 := fun i => by simp [perN]
    have e3 : ∀ i, (r :: rs).getD (i + 1) 0 = rs.getD i 0 := fun i => by simp
    have z1 : (nmL (q :: l))[0]? = some q.1 := rfl
    have z2 : (perN (q :: l)).getD 0 0 = q.2.toNat := by simp [perN]
    have z3 : (r :: rs).getD 0 0 = r := by simp
    have key : (∃ i, (nmL (q :: l))[i]? = some c ∧ t % (perN (q :: l)).getD i 0 = (r :: rs).getD i 0) ↔ (q.1 = c ∧ t % q.2.toNat = r) ∨ ∃ i, (nmL l)[i]? = some c ∧ t % (perN l).getD i 0 = rs.getD i 0 := by
      constructor
      · rintro ⟨i, h1, h2⟩
        cases i with
        | zero => rw [z1] at h1; rw [z2, z3] at h2; exact .inl ⟨Option.some.inj h1, h2⟩
        | succ i => rw [e1] at h1; rw [e2, e3] at h2; exact .inr ⟨i, h1, h2⟩
      · rintro (⟨h1, h2⟩ | ⟨i, h1, h2⟩)
        · exact ⟨0, by rw [z1, h1], by rw [z2, z3]; exact h2⟩
        · exact ⟨i + 1, by rw [e1]; exact h1, by rw [e2, e3]; exact h2⟩
    rw [key, ← ih]
    by_cases g : t % q.2.toNat = r
    · have e : atL (q :: l) (r :: rs) t = q.1 :: atL l rs t := by show (if _ then _ else _) = _; rw [if_pos g]
      rw [e, List.mem_cons]
      constructor
      · rintro (h | h)
        · exact .inl ⟨h.symm, g⟩
        · exact .inr h
      · rintro (⟨h, _⟩ | h)
        · exact .inl h.symm
        · exact .inr h
    · have e : atL (q :: l) (r :: rs) t = atL l rs t := by show (if _ then _ else _) = _; rw [if_neg g]
      rw [e]
      constructor
      · exact .inr
      · rintro (⟨_, h⟩ | h)
        · exact absurd h g
        · exact h
theorem all_at {l : List (Nat × Int)} (b : BellsT l) {rs a : List Nat} {t : Nat} (hl : rs.length = l.length) (hs : a.Sublist (nmL l)) : (∀ c ∈ a, c ∈ atL l rs t) ↔ ∀ i ∈ idxL (nmL l) a, t % (perN l).getD i 0 = rs.getD i 0 := by
  constructor
  · intro h i hi
    obtain ⟨h1, c, h2, h3⟩ := mem_idxL hi
    obtain ⟨j, h4, h5⟩ := (mem_atL hl).mp (h c h3)
    have : i = j := (List.getElem?_inj h1 (nm_nodup b)).mp (by rw [h2, h4])
    rw [this]; exact h5
  · intro h c hc
    obtain ⟨i, hi⟩ := List.getElem?_of_mem (hs.subset hc)
    exact (mem_atL hl).mpr ⟨i, hi, h i (idxL_mem hi hc)⟩
def condN (a at_ : List Nat) : Bool := (a.filter fun c => !decide (c ∈ at_)).isEmpty
theorem condN_iff {a at_ : List Nat} : condN a at_ = true ↔ ∀ c ∈ a, c ∈ at_ := by
  unfold condN
  rw [List.isEmpty_iff, List.filter_eq_nil_iff]
  constructor
  · intro h c hc
    have := h c hc
    simpa using this
  · intro h c hc
    have := h c hc
    simpa using this
theorem cond_met {l : List (Nat × Int)} (b : BellsT l) {rs a : List Nat} {t : Nat} (hl : rs.length = l.length) (hs : a.Sublist (nmL l)) : condN a (atL l rs t) = true ↔ ∀ i ∈ idxL (nmL l) a, t % (perN l).getD i 0 = rs.getD i 0 := condN_iff.trans (all_at b hl hs)
theorem filter_first (p : Nat → Bool) {t R : Nat} (ht : t < R) (hp : p t = true) (hn : ∀ k, k < t → p k = false) : ∃ rest, (List.range R).filter p = t :: rest := by
  have e : List.range R = List.range t ++ (t :: (List.range (R - t - 1)).map (t + 1 + ·)) := by
    have : R = t + ((R - t - 1) + 1) := by omega
    conv => lhs; rw [this]
    rw [List.range_add, List.range_succ_eq_map, List.map_cons, List.map_map, Nat.add_zero]
    congr 2
    exact List.map_congr_left fun k _ => by show t + (k + 1) = t + 1 + k; omega
  rw [e, List.filter_append]
  have h0 : (List.range t).filter p = [] := List.filter_eq_nil_iff.mpr fun k hk => by rw [hn k (List.mem_range.mp hk)]; simp
  rw [h0, List.nil_append, List.filter_cons_of_pos hp]
  exact ⟨_, rfl⟩
theorem idx_per {l : List (Nat × Int)} (a : List Nat) : ∀ p ∈ ((idxL (nmL l) a).map fun i => (perN l).getD i 0), p ∈ perN l := fun p hp => by
  obtain ⟨i, hi, rfl⟩ := List.mem_map.mp hp
  have hi' : i < (perN l).length := by rw [len_pers]; exact idx_lt hi
  simp [List.getD, List.getElem?_eq_getElem hi']
theorem lcm_sub {A B : List Nat} (h : ∀ p ∈ A, p ∈ B) : lcmL 1 A ∣ lcmL 1 B := lcmL_dvd A 1 _ (Nat.one_dvd _) fun p hp => (dvd_lcmL B 1).2 p (h p hp)
/-- the times of a round at which bells strike together -/
def timesL (l : List (Nat × Int)) (rs a : List Nat) : List Nat := (List.range (lcmL 1 (perN l))).filter fun t => condN a (atL l rs t)
theorem times_met {l : List (Nat × Int)} (b : BellsT l) {rs a : List Nat} {t : Nat} (hl : rs.length = l.length) (hs : a.Sublist (nmL l)) (m : Met (perN l) rs (idxL (nmL l) a) t) : ∃ rest, timesL l rs a = t :: rest := by
  refine filter_first _ ?_ ((cond_met b hl hs).mpr m.at_) fun k hk => ?_
  · have := Nat.le_of_dvd (lcmL_pos' (perN l) 1 (by decide) fun p hp => (per_pos b p hp).1) (lcm_sub (idx_per (l := l) a))
    have := m.lt
    omega
  · rcases h : condN a (atL l rs k) with _ | _
    · rfl
    · have hk2 := (cond_met b hl hs).mp h
      have : k = t := one_time (ps := (idxL (nmL l) a).map fun i => (perN l).getD i 0) (by have := m.lt; omega) m.lt fun p hp => by
        obtain ⟨i, hi, rfl⟩ := List.mem_map.mp hp
        rw [hk2 i hi, m.at_ i hi]
      omega
theorem times_none {l : List (Nat × Int)} (b : BellsT l) {rs a : List Nat} (hl : rs.length = l.length) (hs : a.Sublist (nmL l)) (h : ∃ i ∈ idxL (nmL l) a, ∃ j ∈ idxL (nmL l) a, ¬ Fit (perN l) rs i j) : timesL l rs a = [] := by
  obtain ⟨i, hi, j, hj, hf⟩ := h
  refine List.filter_eq_nil_iff.mpr fun k hk hc => hf ?_
  have m := (cond_met b hl hs).mp hc
  have h1 := dvd_of_mod (m i hi)
  have h2 := dvd_of_mod (m j hj)
  have h3 : ((Nat.gcd ((perN l).getD i 0) ((perN l).getD j 0) : Nat) : Int) ∣ (k : Int) - (rs.getD i 0 : Nat) := Int.dvd_trans (Int.natCast_dvd_natCast.mpr (Nat.gcd_dvd_left _ _)) h1
  have h4 : ((Nat.gcd ((perN l).getD i 0) ((perN l).getD j 0) : Nat) : Int) ∣ (k : Int) - (rs.getD j 0 : Nat) := Int.dvd_trans (Int.natCast_dvd_natCast.mpr (Nat.gcd_dvd_right _ _)) h2
  have h5 := Int.dvd_sub h4 h3
  rwa [show (k : Int) - ((rs.getD j 0 : Nat) : Int) - ((k : Int) - ((rs.getD i 0 : Nat) : Int)) = ((rs.getD i 0 : Nat) : Int) - ((rs.getD j 0 : Nat) : Int) by omega] at h5
theorem sm_s5 {c : M Rf} {Γ : List Sl} {v : D} {i : Nat} (hi : i < Γ.length) (h : c Γ = some (.ok (.own v), Γ)) : sSet i c Γ = some (.ok .nx, Γ.set i (.own v)) := by
  rw [sSet_ap, bnd_to h, stR_own, bnd_ap, gOwn_ap, if_pos hi]; rfl
theorem int_repr {t : Nat} (h : t < 10000000000000000) : ∃ X, reprF [natI t] = some (.dat (.str X)) := ⟨_, reprF_ok rfl (fine_abs (by show (t : Int).natAbs < _; omega)) (by show 1921 ≤ 16777216; decide)⟩
end Law

namespace Law
open PySem DL G
/-! ### dicts of texts: what a store changes -/
theorem putS_keys {ss : List (Str × Int)} {c : Str} {e : Int} {d : Str} : d ∈ (putS ss c e).map (·.1) ↔ d = c ∨ d ∈ ss.map (·.1) := by
  unfold putS
  split
  · rename_i h
    have : (ss.map fun p => if p.1 = c then (p.1, e) else p).map (·.1) = ss.map (·.1) := by
      rw [List.map_map]
      exact List.map_congr_left fun p _ => by
        show (if p.1 = c then (p.1, e) else p).1 = p.1
        by_cases g : p.1 = c <;> simp [g]
    rw [this]
    constructor
    · exact .inr
    · rintro (rfl | h2)
      · obtain ⟨p, hp, e⟩ := List.any_eq_true.mp h
        exact List.mem_map.mpr ⟨p, hp, of_decide_eq_true e⟩
      · exact h2
  · rw [List.map_append, List.mem_append]
    simp only [List.map_cons, List.map_nil, List.mem_singleton]
    exact ⟨fun h => h.symm, fun h => h.symm⟩
def lkS : List (Str × Int) → Str → Option Int
  | [], _ => none
  | p :: ss, c => if p.1 = c then some p.2 else lkS ss c
theorem lk_lkS : ∀ (ss : List (Str × Int)) (c : Str), lkD (kS ss) (vS ss) (.str c) = (lkS ss c).map .int
  | [], c => rfl
  | p :: ss, c => by
    show (if kE (.str p.1) (.str c) then some (D.int p.2) else lkD (kS ss) (vS ss) (.str c)) = (if p.1 = c then some p.2 else lkS ss c).map .int
    rw [kE_str, lk_lkS ss c]
    by_cases h : p.1 = c <;> simp [h]
theorem valS_is (ss : List (Str × Int)) (c : Str) : valS ss c = (lkS ss c).getD 0 := by
  unfold valS
  rw [lk_lkS]
  cases lkS ss c <;> rfl
theorem lkS_none : ∀ {ss : List (Str × Int)} {c : Str}, (lkS ss c = none ↔ c ∉ ss.map (·.1))
  | [], c => by simp [lkS]
  | p :: ss, c => by
    have ih := lkS_none (ss := ss) (c := c)
    unfold lkS
    by_cases h : p.1 = c
    · simp [h]
    · rw [if_neg h, ih, List.map_cons, List.mem_cons]
      constructor
      · rintro h1 (h2 | h2)
        · exact h h2.symm
        · exact h1 h2
      · exact fun h1 h2 => h1 (.inr h2)
theorem lkS_map : ∀ (ss : List (Str × Int)) (c d : Str) (e : Int), lkS (ss.map fun p => if p.1 = c then (p.1, e) else p) d = if c = d then (lkS ss d).map fun _ => e else lkS ss d
  | [], c, d, e => by simp [lkS]
  | p :: ss, c, d, e => by
    rw [List.map_cons]
    unfold lkS
    have ih := lkS_map ss c d e
    by_cases h : p.1 = c
    · rw [if_pos h]
      by_cases g : p.1 = d
      · rw [if_pos g, if_pos g, if_pos (by rw [← h, g])]; rfl
      · rw [if_neg g, if_neg g, ih]
    · rw [if_neg h]
      by_cases g : p.1 = d
      · rw [if_pos g, if_pos g, if_neg (fun z => h (by rw [g, z]))]
      · rw [if_neg g, if_neg g, ih]
theorem lkS_snoc : ∀ (ss : List (Str × Int)) (c d : Str) (e : Int), lkS (ss ++ [(c, e)]) d = (lkS ss d).or (if c = d then some e else none)
  | [], c, d, e => rfl
  | p :: ss, c, d, e => by
    rw [List.cons_append]
    unfold lkS
    by_cases h : p.1 = d
    · rw [if_pos h, if_pos h]; rfl
    · rw [if_neg h, if_neg h, lkS_snoc ss c d e]
theorem lkS_put (ss : List (Str × Int)) (c d : Str) (e : Int) : lkS (putS ss c e) d = if c = d then some e else lkS ss d := by
  unfold putS
  split
  · rename_i h
    rw [lkS_map]
    by_cases g : c = d
    · subst g
      rw [if_pos rfl, if_pos rfl]
      have : lkS ss c ≠ none := fun z => by
        obtain ⟨p, hp, e⟩ := List.any_eq_true.mp h
        exact lkS_none.mp z (List.mem_map.mpr ⟨p, hp, of_decide_eq_true e⟩)
      cases q : lkS ss c with
      | none => exact absurd q this
      | some x => rfl
    · rw [if_neg g, if_neg g]
  · rename_i h
    rw [lkS_snoc]
    by_cases g : c = d
    · subst g
      have : lkS ss c = none := lkS_none.mpr fun z => h (by
        obtain ⟨p, hp, e⟩ := List.mem_map.mp z
        exact List.any_eq_true.mpr ⟨p, hp, decide_eq_true e⟩)
      rw [this, if_pos rfl]; rfl
    · rw [if_neg g, if_neg g]
      cases lkS ss d <;> rfl
theorem valS_put (ss : List (Str × Int)) (c d : Str) (e : Int) : valS (putS ss c e) d = if c = d then e else valS ss d := by
  rw [valS_is, valS_is, lkS_put]
  by_cases g : c = d <;> simp [g]
theorem get3_S (ss : List (Str × Int)) (c : Str) : getD3 [.dic (kS ss) (vS ss), .str c, .int 0] = some (.dat (.int (valS ss c))) := by
  show (if okGetE (kS ss) (.str c) then some (Rf.dat ((lkD (kS ss) (vS ss) (.str c)).getD (.int 0))) else none) = _
  have ok : okGetE (kS ss) (.str c) = true := by
    unfold okGetE
    rw [atom_kS, show atomK (.str c) = true from rfl]; rfl
  rw [if_pos ok, lk_lkS, valS_is]
  cases lkS ss c <;> rfl
/-! ### the law's tally -/
def tlS (ss : List (Str × Int)) (a : List Nat) : List (Str × Int) := if a = [] then ss else putS ss (mkS a) (valS ss (mkS a) + 1)
theorem tl_keys : ∀ (L : List (List Nat)) (ss : List (Str × Int)) (d : Str), d ∈ (L.foldl tlS ss).map (·.1) ↔ d ∈ ss.map (·.1) ∨ ∃ a ∈ L, a ≠ [] ∧ mkS a = d
  | [], ss, d => by simp
  | a :: L, ss, d => by
    rw [List.foldl_cons, tl_keys L]
    unfold tlS
    by_cases h : a = []
    · rw [if_pos h]
      constructor
      · rintro (h1 | ⟨b, h1, h2⟩)
        · exact .inl h1
        · exact .inr ⟨b, by simp [h1], h2⟩
      · rintro (h1 | ⟨b, h1, h2, h3⟩)
        · exact .inl h1
        · rcases List.mem_cons.mp h1 with rfl | h1
          · exact absurd h h2
          · exact .inr ⟨b, h1, h2, h3⟩
    · rw [if_neg h, putS_keys]
      constructor
      · rintro ((h1 | h1) | ⟨b, h1, h2⟩)
        · exact .inr ⟨a, by simp, h, h1.symm⟩
        · exact .inl h1
        · exact .inr ⟨b, by simp [h1], h2⟩
      · rintro (h1 | ⟨b, h1, h2, h3⟩)
        · exact .inl (.inr h1)
        · rcases List.mem_cons.mp h1 with rfl | h1
          · exact .inl (.inl h3.symm)
          · exact .inr ⟨b, h1, h2, h3⟩
theorem tl_nodup : ∀ (L : List (List Nat)) (ss : List (Str × Int)), (ss.map (·.1)).Nodup → ((L.foldl tlS ss).map (·.1)).Nodup
  | [], ss, h => h
  | a :: L, ss, h => by
    rw [List.foldl_cons]
    refine tl_nodup L _ ?_
    unfold tlS
    split
    · exact h
    · exact putS_nodup h _ _
theorem tl_val : ∀ (L : List (List Nat)) (ss : List (Str × Int)) (d : List Nat), d ≠ [] → valS (L.foldl tlS ss) (mkS d) = valS ss (mkS d) + (L.count d : Nat)
  | [], ss, d, hd => by simp
  | a :: L, ss, d, hd => by
    rw [List.foldl_cons, tl_val L _ d hd]
    unfold tlS
    by_cases h : a = []
    · rw [if_pos h, List.count_cons_of_ne (by rw [h]; exact fun z => hd z.symm)]
    · rw [if_neg h, valS_put]
      by_cases g : a = d
      · subst g
        rw [if_pos rfl, List.count_cons_self]; omega
      · rw [if_neg (fun z => g (mkS_inj z)), List.count_cons_of_ne g]
theorem len_of_sub {α : Type} [DecidableEq α] : ∀ {as bs : List α}, as.Nodup → (∀ a ∈ as, a ∈ bs) → as.length ≤ bs.length
  | [], bs, _, _ => Nat.zero_le _
  | a :: as, bs, hn, h => by
    rw [List.nodup_cons] at hn
    have ih := len_of_sub (as := as) (bs := bs.erase a) hn.2 fun x hx => (List.mem_erase_of_ne (fun z => hn.1 (by rw [← z]; exact hx))).mpr (h x (by simp [hx]))
    have hm := h a (by simp)
    rw [List.length_erase_of_mem hm] at ih
    have := List.length_pos_of_mem hm
    rw [List.length_cons]; omega
/-- all parts of a list -/
def subs : List Nat → List (List Nat)
  | [] => [[]]
  | c :: cs => subs cs ++ (subs cs).map (c :: ·)
theorem subs_len : ∀ cs : List Nat, (subs cs).length = 2 ^ cs.length
  | [] => rfl
  | c :: cs => by
    unfold subs
    rw [List.length_append, List.length_map, subs_len cs, List.length_cons, Nat.pow_succ]; omega
theorem subs_mem : ∀ {cs a : List Nat}, a.Sublist cs → a ∈ subs cs
  | [], a, h => by
    cases h
    exact List.mem_singleton.mpr rfl
  | c :: cs, a, h => by
    unfold subs
    cases h with
    | cons _ h => exact List.mem_append_left _ (subs_mem h)
    | cons_cons _ h => exact List.mem_append_right _ (List.mem_map.mpr ⟨_, subs_mem h, rfl⟩)
theorem tl_len {cs : List Nat} {L : List (List Nat)} (h5 : cs.length ≤ 5) (h : ∀ a ∈ L, a.Sublist cs) : (L.foldl tlS []).length < 64 := by
  have h1 := tl_nodup L [] .nil
  have h2 := len_of_sub (bs := (subs cs).map mkS) h1 fun d hd => by
    rcases (tl_keys L [] d).mp hd with hd | ⟨a, ha, _, rfl⟩
    · cases hd
    · exact List.mem_map.mpr ⟨a, subs_mem (h a ha), rfl⟩
  rw [List.length_map, List.length_map, subs_len] at h2
  have h3 : 2 ^ cs.length ≤ 2 ^ 5 := Nat.pow_le_pow_right (by decide) h5
  omega
theorem at_sub : ∀ (l : List (Nat × Int)) (rs : List Nat) (t : Nat), (atL l rs t).Sublist (l.map (·.1))
  | [], rs, t => by cases rs <;> exact .slnil
  | q :: l, [], t => by simp [atL]
  | q :: l, r :: rs, t => by
    have ih := at_sub l rs t
    by_cases g : t % q.2.toNat = r
    · have e : atL (q :: l) (r :: rs) t = q.1 :: atL l rs t := by show (if _ then _ else _) = _; rw [if_pos g]
      rw [e]; exact ih.cons_cons _
    · have e : atL (q :: l) (r :: rs) t = atL l rs t := by show (if _ then _ else _) = _; rw [if_neg g]
      rw [e]; exact ih.cons _
noncomputable abbrev taB : M Fl := (sSeq (sSet 4 (sCallF (argN 3 F_law_at) (sCons (cap (sVar 0)) (sCons (cap (sVar 1)) (sCons (cap (sVar 3)) sNil)))))
 (sIf (sB (sBin neD (sVar 4) (sK (.str ""))))
 (sAsg (gDx (sVar 2) (sVar 4)) (sBin addD (sGet (sVar 2) (sVar 4) (sK (.int 0))) (sK (.int 1))))
 sSkip))
theorem ta_no {B R t A E : D} (e1 : F_law_at [B, R, t] = some (.ok (.dat A))) (e2 : neD A (.str "") = some (.dat (.bl false))) (x4 : Sl) : taB [.dat B, .dat R, .own E, .dat t, x4] = some (.ok .nx, [.dat B, .dat R, .own E, .dat t, .dat A]) := by
  simp [bnd_ap, e1, e2]
theorem ta_yes {B R t A E' : D} {ks vs : List D} {v : Int} (e1 : F_law_at [B, R, t] = some (.ok (.dat A))) (e2 : neD A (.str "") = some (.dat (.bl true))) (e3 : getD3 [.dic ks vs, A, .int 0] = some (.dat (.int v))) (e4 : putDM (.dic ks vs) [A, .int (v + 1)] = some (.ok (.dat .non), E')) (x4 : Sl) : taB [.dat B, .dat R, .own (.dic ks vs), .dat t, x4] = some (.ok .nx, [.dat B, .dat R, .own E', .dat t, .dat A]) := by
  simp [bnd_ap, e1, e2, e3, e4, isDicD_dic, -putDM_dic]
theorem ta_turn {l : List (Nat × Int)} (b : BellsT l) {rs : List Nat} (hl : rs.length = l.length) {ss : List (Str × Int)} (hs : ss.length ≤ 1000) (t : Nat) (x4 : Sl) : taB [.dat (bellsD l), .dat (rowD rs), .own (.dic (kS ss) (vS ss)), .dat (natI t), x4] =
    some (.ok .nx, [.dat (bellsD l), .dat (rowD rs), .own (.dic (kS (tlS ss (atL l rs t))) (vS (tlS ss (atL l rs t)))), .dat (natI t), .dat (sD (atL l rs t))]) := by
  have e1 : F_law_at [bellsD l, rowD rs, natI t] = some (.ok (.dat (sD (atL l rs t)))) := at_ok b hl t
  have e2 := ne_S (atL l rs t) []
  rw [← e_empty] at e2
  unfold tlS
  by_cases h : atL l rs t = []
  · rw [decide_eq_true h] at e2
    rw [if_pos h]
    exact ta_no e1 e2 x4
  · rw [decide_eq_false h] at e2
    rw [if_neg h]
    exact ta_yes e1 e2 (get3_S ss _) (put_S _ _ hs) x4
theorem ta_loop {l : List (Nat × Int)} (b : BellsT l) {rs : List Nat} (hl : rs.length = l.length) : ∀ (ts : List Nat) (pre : List (List Nat)) (x3 x4 : Sl), (∀ a ∈ pre, a.Sublist (l.map (·.1))) → ∃ y3 y4,
    loopF (gSet 3) taB (ts.map natI) [.dat (bellsD l), .dat (rowD rs), .own (.dic (kS (pre.foldl tlS [])) (vS (pre.foldl tlS []))), x3, x4] = some (.ok .nx, [.dat (bellsD l), .dat (rowD rs), .own (.dic (kS ((pre ++ ts.map (atL l rs)).foldl tlS [])) (vS ((pre ++ ts.map (atL l rs)).foldl tlS []))), y3, y4])
  | [], pre, x3, x4, hp => ⟨x3, x4, by rw [show pre ++ List.map (atL l rs) [] = pre from List.append_nil _]; rfl⟩
  | t :: ts, pre, x3, x4, hp => by
    have h5 := b.hi
    have hlen := tl_len (cs := l.map (·.1)) (by rw [List.length_map]; omega) hp
    have tt := ta_turn b hl (ss := pre.foldl tlS []) (by omega) t x4
    have e0 : tlS (pre.foldl tlS []) (atL l rs t) = (pre ++ [atL l rs t]).foldl tlS [] := by rw [List.foldl_append]; rfl
    rw [e0] at tt
    obtain ⟨y3, y4, ih⟩ := ta_loop b hl ts (pre ++ [atL l rs t]) (.dat (natI t)) (.dat (sD (atL l rs t))) fun a ha => by
      rcases List.mem_append.mp ha with ha | ha
      · exact hp a ha
      · rw [List.mem_singleton] at ha; subst ha; exact at_sub l rs t
    have e1 : pre ++ [atL l rs t] ++ ts.map (atL l rs) = pre ++ (t :: ts).map (atL l rs) := by simp
    rw [e1] at ih
    have e2 : gSet 3 (natI t) [.dat (bellsD l), .dat (rowD rs), .own (.dic (kS (pre.foldl tlS [])) (vS (pre.foldl tlS []))), x3, x4] = some (.ok (), [.dat (bellsD l), .dat (rowD rs), .own (.dic (kS (pre.foldl tlS [])) (vS (pre.foldl tlS []))), .dat (natI t), x4]) := rfl
    exact ⟨y3, y4, loopF_nx e2 tt ih⟩
/-- dict([(c, found[c]) for c in sorted(found)]) -/
theorem dp_new : ∀ (cs : List Str) (f : Str → Int) (pre : List Str), (pre ++ cs).Nodup → dpF (cs.map fun c => .tup [.str c, .int (f c)]) (pre.map .str) (pre.map fun c => .int (f c)) = some ((pre ++ cs).map .str, (pre ++ cs).map fun c => .int (f c))
  | [], f, pre, h => by rw [List.append_nil]; rfl
  | c :: cs, f, pre, h => by
    have e : dpF ((c :: cs).map fun c => .tup [.str c, .int (f c)]) (pre.map .str) (pre.map fun c => .int (f c)) = dpF (cs.map fun c => .tup [.str c, .int (f c)]) (ptK (pre.map .str) (.str c)) (ptV (pre.map .str) (pre.map fun c => .int (f c)) (.str c) (.int (f c))) := rfl
    rw [e]
    have no : hasD (pre.map .str) (.str c) = false := by
      unfold hasD
      rw [List.any_eq_false]
      intro d hd
      obtain ⟨x, hx, rfl⟩ := List.mem_map.mp hd
      rw [kE_str]
      intro z
      have z := of_decide_eq_true z
      subst z
      rw [List.nodup_append] at h
      exact h.2.2 x hx x (by simp) rfl
    have e1 : ptK (pre.map .str) (.str c) = (pre ++ [c]).map .str := by unfold ptK; rw [no, List.map_append]; rfl
    have e2 : ptV (pre.map .str) (pre.map fun c => .int (f c)) (.str c) (.int (f c)) = (pre ++ [c]).map fun c => .int (f c) := by unfold ptV; rw [no, List.map_append]; rfl
    rw [e1, e2, dp_new cs f (pre ++ [c]) (by simpa using h)]
    simp
def tyD (ss : List (Str × Int)) : D := .dic ((sortS ss).map .str) ((sortS ss).map fun c => .int (valS ss c))
theorem ta_lc {ss : List (Str × Int)} (h : ss.length < 64) (x0 x1 x3 : Sl) : loopL (gSet 4) (DL.ret true) (cap (sTup (sCons (cap (sVar 4)) (sCons (cap (sBin getD2 (sVar 2) (sVar 4))) sNil)))) [4] ((sortS ss).map .str) [] [x0, x1, .own (.dic (kS ss) (vS ss)), x3, .un] =
    some (.ok ((sortS ss).map fun c => .tup [.str c, .int (valS ss c)]), [x0, x1, .own (.dic (kS ss) (vS ss)), x3, .un]) := by
  have hp : (sortS ss).Perm (ss.map (·.1)) := List.mergeSort_perm _ _
  have e := loopL_map (g := gSet 4) (ce := cap (sTup (sCons (cap (sVar 4)) (sCons (cap (sBin getD2 (sVar 2) (sVar 4))) sNil)))) (vs := [4]) (Γ0 := [x0, x1, .own (.dic (kS ss) (vS ss)), x3, .un]) (f := fun d => .tup [.str (unS d), .int (valS ss (unS d))]) ((sortS ss).map .str) (fun d hd => by
    obtain ⟨c, hc, rfl⟩ := List.mem_map.mp hd
    have g := get_S (hp.mem_iff.mp hc)
    refine ⟨[x0, x1, .own (.dic (kS ss) (vS ss)), x3, .dat (.str c)], [x0, x1, .own (.dic (kS ss) (vS ss)), x3, .dat (.str c)], rfl, ?_, rfl⟩
    show _ = some (Except.ok (D.tup [D.str c, D.int (valS ss c)]), _)
    simp [bnd_ap, g, mkTup_ok, -getD2_dic]) (by rw [List.length_map, hp.length_eq, List.length_map]; omega)
  rw [e, List.map_map]
  rfl
theorem tally_run {B R : D} {r : Int} {N L Z : List D} {ks vs : List D} {T : D} {y3 y4 : Sl} (h3 : F_law_round_of [B] = some (.ok (.dat (.int r)))) (h4 : range1 [.int r] = some N) (h5 : loopF (gSet 3) taB N [.dat B, .dat R, .own (.dic [] []), .un, .un] = some (.ok .nx, [.dat B, .dat R, .own (.dic ks vs), y3, y4])) (h6 : sortedD2 [.dic ks vs] = some (.own (.lst L)))
    (h7 : ∀ x, loopL (gSet 4) (DL.ret true) (cap (sTup (sCons (cap (sVar 4)) (sCons (cap (sBin getD2 (sVar 2) (sVar 4))) sNil)))) [4] L [] [.dat B, .dat R, .own (.dic ks vs), x, .un] = some (.ok Z, [.dat B, .dat R, .own (.dic ks vs), x, .un])) (h8 : dictF [.lst Z] = some (.own T)) : F_law_tally [B, R] = some (.ok (.own T)) := by
  refine runDef_to (f := .rt (.own T)) (Γ := [.dat B, .dat R, .un, .un, .un]) (Γ' := [.dat B, .dat R, .own (.dic ks vs), y3, keepD (some y4)]) rfl ?_ rfl
  refine sSeq_to (Γ' := [.dat B, .dat R, .own (.dic [] []), .un, .un]) (by simp [bnd_ap]) ?_
  refine sSeq_to (sFor_to (Γ1 := [.dat B, .dat R, .own (.dic [] []), .un, .un]) (ds := N) (by simp [bnd_ap, h3, h4]) h5) ?_
  have h7' := h7 y3
  simp [bnd_ap, h6, h7', h8]
/-- the chimes of a round, time by time -/
def chT (l : List (Nat × Int)) (rs : List Nat) : List (List Nat) := (List.range (lcmL 1 (perN l))).map (atL l rs)
def tallS (l : List (Nat × Int)) (rs : List Nat) : List (Str × Int) := (chT l rs).foldl tlS []
theorem tally_ok {l : List (Nat × Int)} (b : BellsT l) {rs : List Nat} (hl : rs.length = l.length) (hR : lcmL 1 (perN l) ≤ 900000) : F_law_tally [bellsD l, rowD rs] = some (.ok (.own (tyD (tallS l rs)))) := by
  have h5 := b.hi
  obtain ⟨y3, y4, e⟩ := ta_loop b hl (List.range (lcmL 1 (perN l))) [] .un .un (by simp)
  rw [List.nil_append] at e
  have hlen : (tallS l rs).length < 64 := tl_len (cs := l.map (·.1)) (by rw [List.length_map]; omega) fun a ha => by
    obtain ⟨t, _, rfl⟩ := List.mem_map.mp ha
    exact at_sub l rs t
  have hn : (sortS (tallS l rs)).Nodup := (List.mergeSort_perm _ _).symm.nodup (tl_nodup _ _ .nil)
  have hd := dp_new (sortS (tallS l rs)) (valS (tallS l rs)) [] (by rw [List.nil_append]; exact hn)
  rw [List.nil_append] at hd
  exact tally_run (round_ok b.per) (range1_n (by omega)) e (sorted_S hlen) (fun x => ta_lc hlen _ _ x) (by
    show (dpF _ [] []).map _ = _
    rw [show dpF _ [] [] = _ from hd]; rfl)
end Law

namespace Law
open PySem DL G
/-! ### do they meet: the program's answer -/
theorem meets_run {so A : D} {M : List D} {v : Bool} (h1 : F_members_of [so, A] = some (.ok (.own (.lst M)))) (h2 : F_do_meet [so, .lst M] = some (.ok (.dat (.bl v)))) : F_meets [so, A] = some (.ok (.dat (.bl v))) := by
  simp [F_meets, runDef_ap, c_meets, st0, bnd_ap, h1, h2]
theorem meets_ok {l : List (Nat × Int)} (b : BellsT l) (rs : List Nat) {a : List Nat} (ha : a ≠ []) (hs : a.Sublist (nmL l)) : ∃ v : Bool, F_meets [songD l rs, sD a] = some (.ok (.dat (.bl v))) ∧ (v = true ↔ ∀ i ∈ idxL (nmL l) a, ∀ j ∈ idxL (nmL l) a, i < j → Fit (perN l) rs i j) :=
  ⟨_, meets_run (members_ok b rs ha hs) (domeet_ok b rs a), fits_iff b rs a⟩
theorem bl_repr (v : Bool) : ∃ X, reprF [.bl v] = some (.dat (.str X)) := by
  cases v
  · exact ⟨_, reprF_ok rfl rfl (by show 5 ≤ 16777216; decide)⟩
  · exact ⟨_, reprF_ok rfl rfl (by show 5 ≤ 16777216; decide)⟩
/-! ### the small check -/
noncomputable abbrev kI : M Rf := (sLc [7] (sIter (sVar 4)) (gSet 7) (sB (sBin notInD (sVar 7) (sVar 6))) (sVar 7))
theorem k_inner {a at_ : List Nat} (ha : a.length ≤ 100) (x0 x1 x2 x3 x5 : Sl) : kI [x0, x1, x2, x3, .dat (sD a), x5, .dat (sD at_), .un] = some (.ok (.own (.lst ((a.filter fun c => !decide (c ∈ at_)).map L1))), [x0, x1, x2, x3, .dat (sD a), x5, .dat (sD at_), .un]) := by
  have e := loopL_fmk (g := gSet 7) (ct := sB (sBin notInD (sVar 7) (sVar 6))) (ce := cap (sVar 7)) (vs := [7]) (Γ0 := [x0, x1, x2, x3, .dat (sD a), x5, .dat (sD at_), .un]) (p := fun d => !decide (unL d ∈ at_)) (f := id) (a.map L1) [] (fun d hd => by
    obtain ⟨c, _, rfl⟩ := List.mem_map.mp hd
    have h := notIn_S c at_
    generalize sD at_ = A at *
    generalize sD a = C at *
    exact ⟨[x0, x1, x2, x3, .dat C, x5, .dat A, .dat (L1 c)], [x0, x1, x2, x3, .dat C, x5, .dat A, .dat (L1 c)], rfl, by rw [unL_1]; simp [bnd_ap, h], fun _ => rfl, fun _ => ⟨_, rfl, rfl⟩⟩) (by rw [List.length_map, List.length_nil]; omega)
  rw [filt_L1 (fun c => !decide (c ∈ at_)), List.map_id, List.nil_append] at e
  have e3 := seq_S a (by omega)
  generalize (a.filter fun c => !decide (c ∈ at_)).map L1 = G at *
  generalize sD a = C at *
  generalize a.map L1 = aL at *
  generalize sD at_ = A at *
  simp [bnd_ap, e3, e]
theorem k_cond {a at_ : List Nat} (ha : a.length ≤ 100) (x0 x1 x2 x3 x5 : Sl) : sB (sBin eqD kI (sLst sNil)) [x0, x1, x2, x3, .dat (sD a), x5, .dat (sD at_), .un] = some (.ok (condN a at_), [x0, x1, x2, x3, .dat (sD a), x5, .dat (sD at_), .un]) := by
  have e := k_inner (at_ := at_) ha x0 x1 x2 x3 x5
  have e2 : eqD (.lst ((a.filter fun c => !decide (c ∈ at_)).map L1)) (.lst []) = some (.dat (.bl (condN a at_))) := by
    rw [eqD_nil fun d hd => by
      obtain ⟨c, _, rfl⟩ := List.mem_map.mp hd
      exact okD_L1 c]
    unfold condN
    rw [List.isEmpty_map]
  exact sB_to (sBin_op (opnd_o e) (by rfl) e2)
def hitS (a : List Nat) (cs : List Str) : List Str := cs.filter fun c => condN a c.cps.toList
noncomputable abbrev kO : M Rf := (sLc [6] (sKeys 3) (gSet 6) (sB (sBin eqD kI (sLst sNil))) (sVar 6))
theorem k_outer {a : List Nat} {cs : List Str} {vs : List D} (ha : a.length ≤ 100) (hc : cs ≠ []) (hl : cs.length ≤ 1000) (x3 : Sl) (hx : x3 = .own (.dic (cs.map .str) vs) ∨ x3 = .dat (.dic (cs.map .str) vs)) (x0 x1 x2 x5 : Sl) : kO [x0, x1, x2, x3, .dat (sD a), x5, .un, .un] = some (.ok (.own (.lst ((hitS a cs).map .str))), [x0, x1, x2, .dat (.dic (cs.map .str) vs), .dat (sD a), x5, .un, .un]) := by
  have e := loopL_fmk (g := gSet 6) (ct := sB (sBin eqD kI (sLst sNil))) (ce := cap (sVar 6)) (vs := [6]) (Γ0 := [x0, x1, x2, .dat (.dic (cs.map .str) vs), .dat (sD a), x5, .un, .un]) (p := fun d => condN a (unS d).cps.toList) (f := id) (cs.map .str) [] (fun d hd => by
    obtain ⟨c, _, rfl⟩ := List.mem_map.mp hd
    have h := k_cond (a := a) (at_ := c.cps.toList) ha x0 x1 x2 (.dat (.dic (cs.map .str) vs)) x5
    have e1 : sD c.cps.toList = .str c := by show D.str (mkS c.cps.toList) = _; rw [mkS_eta]
    rw [e1] at h
    exact ⟨_, [x0, x1, x2, .dat (.dic (cs.map .str) vs), .dat (sD a), x5, .dat (.str c), .un], rfl, h, fun _ => rfl, fun _ => ⟨_, rfl, rfl⟩⟩) (by rw [List.length_map, List.length_nil]; omega)
  have e2 : ((cs.map D.str).filter fun d => condN a (unS d).cps.toList) = (hitS a cs).map .str := by
    unfold hitS
    rw [List.filter_map]; rfl
  rw [e2, List.map_id, List.nil_append] at e
  have ne : (cs.map D.str).isEmpty = false := by
    cases cs with
    | nil => exact absurd rfl hc
    | cons => rfl
  have al : (cs.map D.str).all atomK = true := List.all_eq_true.mpr fun d hd => by
    obtain ⟨c, _, rfl⟩ := List.mem_map.mp hd
    rfl
  rcases hx with rfl | rfl
  · have hk : sKeys 3 [x0, x1, x2, .own (.dic (cs.map .str) vs), .dat (sD a), x5, .un, .un] = some (.ok (cs.map .str), [x0, x1, x2, .dat (.dic (cs.map .str) vs), .dat (sD a), x5, .un, .un]) := sKeys_own (i := 3) rfl ne al
    exact sLc_to hk e
  · have hk : sKeys 3 [x0, x1, x2, .dat (.dic (cs.map .str) vs), .dat (sD a), x5, .un, .un] = some (.ok (cs.map .str), [x0, x1, x2, .dat (.dic (cs.map .str) vs), .dat (sD a), x5, .un, .un]) := sKeys_dat (i := 3) rfl ne al
    exact sLc_to hk e
noncomputable abbrev kB : M Fl := (sSeq (sSet 5 (sBin neD kO (sLst sNil)))
 (sIf (sB (sBin neD (sCB reprF (oCons (sCallF (argN 2 F_meets) (sCons (cap (sVar 2)) (sCons (cap (sVar 4)) sNil))) oNil)) (sCB reprF (oCons (sVar 5) oNil))))
 (sRet (sK (.bl false)))
 sSkip))
theorem k_if {T V A : D} {X : Str} (hm : F_meets [T, A] = some (.ok (.dat V))) (hX : reprF [V] = some (.dat (.str X))) (x2 : Sl) (hx : x2 = .own T ∨ x2 = .dat T) (x0 x1 x3 x6 x7 : Sl) : (sIf (sB (sBin neD (sCB reprF (oCons (sCallF (argN 2 F_meets) (sCons (cap (sVar 2)) (sCons (cap (sVar 4)) sNil))) oNil)) (sCB reprF (oCons (sVar 5) oNil))))
 (sRet (sK (.bl false)))
 sSkip) [x0, x1, x2, x3, .dat A, .dat V, x6, x7] = some (.ok .nx, [x0, x1, .dat T, x3, .dat A, .dat V, x6, x7]) := by
  have e1 := neD_str_same X
  rcases hx with rfl | rfl <;> simp [bnd_ap, hm, hX, e1]
theorem set_d {c : M Rf} {Γ Γ1 : List Sl} {v : D} {i : Nat} (hi : i < Γ1.length) (h : c Γ = some (.ok (.dat v), Γ1)) : sSet i c Γ = some (.ok .nx, Γ1.set i (.dat v)) := by
  rw [sSet_ap, bnd_to h, stR_dat, bnd_ap, gSet_ap, if_pos hi]; rfl
theorem k_turn {l : List (Nat × Int)} (b : BellsT l) {rs a : List Nat} {cs : List Str} {vs : List D} (ha : a ≠ []) (hs : a.Sublist (nmL l)) (hc : cs ≠ []) (hl : cs.length ≤ 1000) (hv : ∀ v : Bool, (v = true ↔ ∀ i ∈ idxL (nmL l) a, ∀ j ∈ idxL (nmL l) a, i < j → Fit (perN l) rs i j) → v = !(hitS a cs).isEmpty) (x2 x3 : Sl) (hx2 : x2 = .own (songD l rs) ∨ x2 = .dat (songD l rs)) (hx3 : x3 = .own (.dic (cs.map .str) vs) ∨ x3 = .dat (.dic (cs.map .str) vs)) (x0 x1 x5 : Sl) : ∃ y5,
    kB [x0, x1, x2, x3, .dat (sD a), x5, .un, .un] = some (.ok .nx, [x0, x1, .dat (songD l rs), .dat (.dic (cs.map .str) vs), .dat (sD a), y5, .un, .un]) := by
  have h5 := b.hi
  have hal : a.length ≤ 100 := by have := hs.length_le; rw [nm_len] at this; omega
  obtain ⟨v, m1, m2⟩ := meets_ok b rs ha hs
  obtain ⟨X, hX⟩ := bl_repr v
  have e1 := k_outer (a := a) (vs := vs) hal hc hl x3 hx3 x0 x1 x2 x5
  have e2 : neD (.lst ((hitS a cs).map .str)) (.lst []) = some (.dat (.bl v)) := by
    rw [neD_nil fun d hd => by
      obtain ⟨c, _, rfl⟩ := List.mem_map.mp hd
      rfl]
    rw [List.isEmpty_map, hv v m2]
  have e3 : sSet 5 (sBin neD kO (sLst sNil)) [x0, x1, x2, x3, .dat (sD a), x5, .un, .un] = some (.ok .nx, [x0, x1, x2, .dat (.dic (cs.map .str) vs), .dat (sD a), .dat (.bl v), .un, .un]) :=
    set_d (i := 5) (Γ1 := [x0, x1, x2, .dat (.dic (cs.map .str) vs), .dat (sD a), x5, .un, .un]) (by simp) (sBin_op (opnd_o e1) (by rfl) e2)
  exact ⟨_, sSeq_to e3 (k_if m1 hX x2 hx2 x0 x1 _ .un .un)⟩
theorem k_loop {l : List (Nat × Int)} (b : BellsT l) {rs : List Nat} {cs : List Str} {vs : List D} (hc : cs ≠ []) (hl : cs.length ≤ 1000) (x0 x1 : Sl) : ∀ (ys : List (List Nat)) (x2 x3 x4 x5 : Sl), (∀ a ∈ ys, a ≠ [] ∧ a.Sublist (nmL l) ∧ ∀ v : Bool, (v = true ↔ ∀ i ∈ idxL (nmL l) a, ∀ j ∈ idxL (nmL l) a, i < j → Fit (perN l) rs i j) → v = !(hitS a cs).isEmpty) → (x2 = .own (songD l rs) ∨ x2 = .dat (songD l rs)) → (x3 = .own (.dic (cs.map .str) vs) ∨ x3 = .dat (.dic (cs.map .str) vs)) → ∃ Γ,
    loopF (gSet 4) kB (ys.map sD) [x0, x1, x2, x3, x4, x5, .un, .un] = some (.ok .nx, Γ)
  | [], x2, x3, x4, x5, hy, hx, hx3 => ⟨_, rfl⟩
  | a :: ys, x2, x3, x4, x5, hy, hx, hx3 => by
    obtain ⟨h1, h2, h3⟩ := hy a (by simp)
    obtain ⟨y5, t⟩ := k_turn b h1 h2 hc hl h3 x2 x3 hx hx3 x0 x1 x5
    obtain ⟨Γ, ih⟩ := k_loop b hc hl x0 x1 ys (.dat (songD l rs)) (.dat (.dic (cs.map .str) vs)) (.dat (sD a)) y5 (fun c hc => hy c (by simp [hc])) (.inr rfl) (.inr rfl)
    have e2 : gSet 4 (sD a) [x0, x1, x2, x3, x4, x5, .un, .un] = some (.ok (), [x0, x1, x2, x3, .dat (sD a), x5, .un, .un]) := rfl
    exact ⟨Γ, loopF_nx e2 t ih⟩
theorem small_run {B R tw so T : D} {S : List D} {Γ : List Sl} (h1 : F_Tower___init (.ins k_Tower [] []) [B] = some (.ok (.dat .non), tw)) (h2 : F_Song___init (.ins k_Song [] []) [tw, R] = some (.ok (.dat .non), so)) (h3 : F_law_tally [B, R] = some (.ok (.own T)))
    (h6 : F_law_sets [B] = some (.ok (.own (.lst S)))) (h7 : loopF (gSet 4) kB S [.dat B, .dat R, .own so, .own T, .un, .un, .un, .un] = some (.ok .nx, Γ)) : F_law_small_right [B, R] = some (.ok (.dat (.bl true))) := by
  refine runDef_to (f := .rt (.dat (.bl true))) (Γ := [.dat B, .dat R, .un, .un, .un, .un, .un, .un]) (Γ' := Γ) rfl ?_ rfl
  refine sSeq_to (Γ' := [.dat B, .dat R, .own so, .own T, .un, .un, .un, .un]) (by simp [bnd_ap, h1, h2, h3]) ?_
  exact sSeq_to (sFor_to (Γ1 := [.dat B, .dat R, .own so, .own T, .un, .un, .un, .un]) (ds := S) (by simp [bnd_ap, h6]) h7) (by simp [bnd_ap])
theorem mem_sortS {ss : List (Str × Int)} {c : Str} : c ∈ sortS ss ↔ c ∈ ss.map (·.1) := (List.mergeSort_perm _ _).mem_iff
theorem hit_iff {l : List (Nat × Int)} (b : BellsT l) {rs a : List Nat} (ha : a ≠ []) : (hitS a (sortS (tallS l rs))).isEmpty = true ↔ timesL l rs a = [] := by
  rw [List.isEmpty_iff]
  unfold hitS timesL
  rw [List.filter_eq_nil_iff, List.filter_eq_nil_iff]
  constructor
  · intro h t ht hc
    refine h (mkS (atL l rs t)) (mem_sortS.mpr ((tl_keys _ [] _).mpr (.inr ⟨atL l rs t, List.mem_map.mpr ⟨t, ht, rfl⟩, fun z => ?_, rfl⟩))) (by rw [mkS_list]; exact hc)
    rw [z] at hc
    obtain ⟨c, hc'⟩ := List.exists_mem_of_ne_nil a ha
    have := condN_iff.mp hc c hc'
    cases this
  · intro h c hc hh
    rcases (tl_keys _ [] _).mp (mem_sortS.mp hc) with h1 | ⟨x, h1, _, rfl⟩
    · cases h1
    · obtain ⟨t, ht, rfl⟩ := List.mem_map.mp h1
      rw [mkS_list] at hh
      exact h t ht hh
theorem tall_ne {l : List (Nat × Int)} (b : BellsT l) {rs : List Nat} (h : RowP (perN l) rs) : sortS (tallS l rs) ≠ [] := by
  have hlo := b.lo
  have hl : rs.length = l.length := by rw [h.len, len_pers]
  have h0 : 0 < (perN l).length := by rw [len_pers]; omega
  have hr := h.at_ 0 h0
  have hm : (perN l).getD 0 0 ∈ perN l := by simp [List.getD, h0]
  have hd := (dvd_lcmL (perN l) 1).2 _ hm
  have hle := Nat.le_of_dvd (lcmL_pos' (perN l) 1 (by decide) fun p hp => (per_pos b p hp).1) hd
  obtain ⟨c, hn⟩ : ∃ c, (nmL l)[0]? = some c := ⟨_, List.getElem?_eq_getElem (by rw [nm_len]; omega)⟩
  have hc : c ∈ atL l rs (rs.getD 0 0) := (mem_atL hl).mpr ⟨0, hn, Nat.mod_eq_of_lt hr⟩
  intro z
  have : mkS (atL l rs (rs.getD 0 0)) ∈ sortS (tallS l rs) := mem_sortS.mpr ((tl_keys _ [] _).mpr (.inr ⟨_, List.mem_map.mpr ⟨rs.getD 0 0, List.mem_range.mpr (by omega), rfl⟩, (fun z => by rw [z] at hc; cases hc), rfl⟩))
  rw [z] at this
  cases this
theorem hit_ok {l : List (Nat × Int)} (b : BellsT l) {rs a : List Nat} (h : RowP (perN l) rs) (ha : a ≠ []) (hs : a.Sublist (nmL l)) (v : Bool) (hv : v = true ↔ ∀ i ∈ idxL (nmL l) a, ∀ j ∈ idxL (nmL l) a, i < j → Fit (perN l) rs i j) : v = !(hitS a (sortS (tallS l rs))).isEmpty := by
  have hl : rs.length = l.length := by rw [h.len, len_pers]
  have hi := hit_iff b (rs := rs) ha
  cases v with
  | true =>
    obtain ⟨t, m⟩ := met_all b h a (hv.mp rfl)
    obtain ⟨rest, e⟩ := times_met b hl hs m
    cases q : (hitS a (sortS (tallS l rs))).isEmpty with
    | false => rfl
    | true => rw [hi.mp q] at e; cases e
  | false =>
    have : ∃ i ∈ idxL (nmL l) a, ∃ j ∈ idxL (nmL l) a, ¬ Fit (perN l) rs i j := by
      apply Classical.byContradiction
      intro z
      have : false = true := hv.mpr fun i hi j hj hij => Classical.byContradiction fun z2 => z ⟨i, hi, j, hj, z2⟩
      cases this
    rw [hi.mpr (times_none b hl hs this)]; rfl
theorem small_ok {l : List (Nat × Int)} (b : BellsT l) {rs : List Nat} (h : RowP (perN l) rs) (hR : lcmL 1 (perN l) ≤ 900000) : F_law_small_right [bellsD l, rowD rs] = some (.ok (.dat (.bl true))) := by
  have hl : rs.length = l.length := by rw [h.len, len_pers]
  have h5 := b.hi
  obtain ⟨ys, y1, y2, y3⟩ := sets_ok b
  have hlen : (tallS l rs).length < 64 := tl_len (cs := l.map (·.1)) (by rw [List.length_map]; omega) fun a ha => by
    obtain ⟨t, _, rfl⟩ := List.mem_map.mp ha
    exact at_sub l rs t
  have hsl : (sortS (tallS l rs)).length ≤ 1000 := by
    have hp : (sortS (tallS l rs)).Perm ((tallS l rs).map (·.1)) := List.mergeSort_perm _ _
    rw [hp.length_eq, List.length_map]; omega
  obtain ⟨Γ, e⟩ := k_loop b (rs := rs) (cs := sortS (tallS l rs)) (vs := (sortS (tallS l rs)).map fun c => .int (valS (tallS l rs) c)) (tall_ne b h) hsl (.dat (bellsD l)) (.dat (rowD rs)) ys (.own (songD l rs)) (.own (tyD (tallS l rs))) .un .un (fun a ha => ⟨(y2 a ha).1, (y2 a ha).2, fun v hv => hit_ok b h (y2 a ha).1 (y2 a ha).2 v hv⟩) (.inl rfl) (.inl rfl)
  exact small_run (init_ok b) (song_ok b h) (tally_ok b hl hR) y3 e
end Law

namespace Law
open PySem DL G
/-! ### the great check: pairs of bells that never meet -/
def badF (ps rs : List Nat) (i j : Nat) : Bool := !decide ((((rs.getD i 0 : Nat) : Int) - ((rs.getD j 0 : Nat) : Int)) % ((Nat.gcd (ps.getD i 0) (ps.getD j 0) : Nat) : Int) = 0)
theorem badF_iff {ps rs : List Nat} {i j : Nat} : badF ps rs i j = false ↔ Fit ps rs i j := by
  unfold badF Fit
  rw [Bool.not_eq_false', decide_eq_true_eq]
  exact (Int.dvd_iff_emod_eq_zero).symm
def nmAt (l : List (Nat × Int)) (i : Nat) : Nat := (nmL l).getD i 0
def apR (l : List (Nat × Int)) (rs : List Nat) (j : Nat) (is : List Nat) : List (Nat × Nat) := (is.filter fun i => badF (perN l) rs i j).map fun i => (nmAt l i, nmAt l j)
def apD (q : Nat × Nat) : D := .tup [L1 q.1, L1 q.2]
noncomputable abbrev gaB : M Fl := (sIf (sB (sBin neD (sBin modD (sBin subD (sBin ixD (sVar 1) (sVar 5)) (sBin ixD (sVar 1) (sVar 4))) (sCallF (argN 2 F_law_divisor) (sCons (cap (sBin ixD (sBin ixD (sVar 0) (sVar 5)) (sK (.int 1)))) (sCons (cap (sBin ixD (sBin ixD (sVar 0) (sVar 4)) (sK (.int 1)))) sNil)))) (sK (.int 0))))
 (sDrop (sMut isLst appendM (sVar 3) (sCons (cap (sTup (sCons (cap (sBin ixD (sBin ixD (sVar 0) (sVar 5)) (sK (.int 0)))) (sCons (cap (sBin ixD (sBin ixD (sVar 0) (sVar 4)) (sK (.int 0)))) sNil)))) sNil)))
 sSkip)
theorem ga_turn {B R Bi Bj Ni Nj : D} {A : List D} {i j a b c d g : Int} (x2 x6 x7 x8 : Sl) (hA : A.length < 16777216) (h1 : ixD R (.int i) = some (.dat (.int a))) (h2 : ixD R (.int j) = some (.dat (.int b))) (h3 : ixD B (.int i) = some (.dat Bi)) (h4 : ixD B (.int j) = some (.dat Bj)) (h3' : ixD Bi (.int 1) = some (.dat (.int c))) (h4' : ixD Bj (.int 1) = some (.dat (.int d)))
    (h3n : ixD Bi (.int 0) = some (.dat Ni)) (h4n : ixD Bj (.int 0) = some (.dat Nj)) (h5 : F_law_divisor [.int c, .int d] = some (.ok (.dat (.int g)))) (hg : 0 < g) :
    gaB [.dat B, .dat R, x2, .own (.lst A), .dat (.int j), .dat (.int i), x6, x7, x8] = some (.ok .nx, [.dat B, .dat R, x2, .own (.lst (if (a - b) % g = 0 then A else A ++ [.tup [Ni, Nj]])), .dat (.int j), .dat (.int i), x6, x7, x8]) := by
  by_cases hw : (a - b) % g = 0
  · simp [bnd_ap, h1, h2, h3, h4, h3', h4', h5, hg, hw]
  · simp [bnd_ap, h1, h2, h3, h4, h3', h4', h3n, h4n, h5, hg, hw, mkTup_ok, hA]
theorem nm_at {l : List (Nat × Int)} {i : Nat} (h : i < l.length) : ixD (bellD l[i]) (.int 0) = some (.dat (L1 (nmAt l i))) := by
  unfold nmAt nmL
  simp only [List.getD, List.getElem?_map, List.getElem?_eq_getElem h, Option.map_some, Option.getD_some]
  rfl
theorem ix_per2 {l : List (Nat × Int)} (hp : ∀ q ∈ l, 1 ≤ q.2 ∧ q.2 ≤ 30) {i : Nat} (h : i < l.length) : ixD (bellD l[i]) (.int 1) = some (.dat (.int (((perN l).getD i 0 : Nat) : Int))) := by
  rw [ix_bell1, perN_at hp h]
theorem ga_step {l : List (Nat × Int)} (b : BellsT l) {rs : List Nat} (hl : rs.length = l.length) {P : List (Nat × Nat)} (hP : P.length ≤ 1000) {i j : Nat} (hi : i < l.length) (hj : j < l.length) (x2 x6 x7 x8 : Sl) :
    gaB [.dat (bellsD l), .dat (rowD rs), x2, .own (.lst (P.map apD)), .dat (natI j), .dat (natI i), x6, x7, x8] = some (.ok .nx, [.dat (bellsD l), .dat (rowD rs), x2, .own (.lst ((P ++ apR l rs j [i]).map apD)), .dat (natI j), .dat (natI i), x6, x7, x8]) := by
  have hp := getD_pos (per_pos b) (i := i) (by rw [len_pers]; exact hi)
  have t := ga_turn (A := P.map apD) x2 x6 x7 x8 (by rw [List.length_map]; omega) (ix_row (rs := rs) (i := i) (by omega)) (ix_row (rs := rs) (i := j) (by omega)) (ix_bells hi) (ix_bells hj) (ix_per2 b.per hi) (ix_per2 b.per hj) (nm_at hi) (nm_at hj) (divisor_ok _ _) (gcd_small (b := (perN l).getD j 0) hp.1 hp.2).1
  have e : (if (((rs.getD i 0 : Nat) : Int) - ((rs.getD j 0 : Nat) : Int)) % ((Nat.gcd ((perN l).getD i 0) ((perN l).getD j 0) : Nat) : Int) = 0 then P.map apD else P.map apD ++ [.tup [L1 (nmAt l i), L1 (nmAt l j)]]) = (P ++ apR l rs j [i]).map apD := by
    unfold apR badF
    by_cases h : (((rs.getD i 0 : Nat) : Int) - ((rs.getD j 0 : Nat) : Int)) % ((Nat.gcd ((perN l).getD i 0) ((perN l).getD j 0) : Nat) : Int) = 0
    · rw [if_pos h, List.filter_cons_of_neg (by rw [decide_eq_true h]; simp)]; simp
    · rw [if_neg h, List.filter_cons_of_pos (by rw [decide_eq_false h]; rfl)]
      simp [apD]
  rw [e] at t
  exact t
theorem ga_inner {l : List (Nat × Int)} (b : BellsT l) {rs : List Nat} (hl : rs.length = l.length) {j : Nat} (hj : j < l.length) (x2 x6 x7 x8 : Sl) : ∀ (is : List Nat) (P : List (Nat × Nat)) (x5 : Sl), (∀ i ∈ is, i < l.length) → P.length + is.length ≤ 1000 → ∃ y5,
    loopF (gSet 5) gaB (is.map natI) [.dat (bellsD l), .dat (rowD rs), x2, .own (.lst (P.map apD)), .dat (natI j), x5, x6, x7, x8] = some (.ok .nx, [.dat (bellsD l), .dat (rowD rs), x2, .own (.lst ((P ++ apR l rs j is).map apD)), .dat (natI j), y5, x6, x7, x8])
  | [], P, x5, hi, hn => ⟨x5, by rw [show apR l rs j [] = [] from rfl, List.append_nil]; rfl⟩
  | i :: is, P, x5, hi, hn => by
    simp only [List.length_cons] at hn
    have t := ga_step b hl (P := P) (by omega) (hi i (by simp)) hj x2 x6 x7 x8
    have hr : (apR l rs j [i]).length ≤ 1 := by unfold apR; rw [List.length_map]; exact List.length_filter_le _ _
    obtain ⟨y5, ih⟩ := ga_inner b hl hj x2 x6 x7 x8 is (P ++ apR l rs j [i]) (.dat (natI i)) (fun k hk => hi k (by simp [hk])) (by rw [List.length_append]; omega)
    have e : P ++ apR l rs j [i] ++ apR l rs j is = P ++ apR l rs j (i :: is) := by
      rw [List.append_assoc]
      refine congrArg (P ++ ·) ?_
      unfold apR
      rw [← List.map_append, ← List.filter_append]; rfl
    rw [e] at ih
    have e2 : gSet 5 (natI i) [.dat (bellsD l), .dat (rowD rs), x2, .own (.lst (P.map apD)), .dat (natI j), x5, x6, x7, x8] = some (.ok (), [.dat (bellsD l), .dat (rowD rs), x2, .own (.lst (P.map apD)), .dat (natI j), .dat (natI i), x6, x7, x8]) := rfl
    exact ⟨y5, loopF_nx e2 t ih⟩
noncomputable abbrev gaO : M Fl := (sFor (sRng range1 (sCons (cap (sVar 4)) sNil)) (gSet 5) gaB)
def apL (l : List (Nat × Int)) (rs : List Nat) (js : List Nat) : List (Nat × Nat) := js.flatMap fun j => apR l rs j (List.range j)
theorem apR_len (l : List (Nat × Int)) (rs : List Nat) (j : Nat) (is : List Nat) : (apR l rs j is).length ≤ is.length := by unfold apR; rw [List.length_map]; exact List.length_filter_le _ _
theorem ga_outer {l : List (Nat × Int)} (b : BellsT l) {rs : List Nat} (hl : rs.length = l.length) (x2 x6 x7 x8 : Sl) : ∀ (js : List Nat) (P : List (Nat × Nat)) (x4 x5 : Sl), (∀ j ∈ js, j < l.length) → P.length + 10 * js.length ≤ 900 → ∃ y4 y5,
    loopF (gSet 4) gaO (js.map natI) [.dat (bellsD l), .dat (rowD rs), x2, .own (.lst (P.map apD)), x4, x5, x6, x7, x8] = some (.ok .nx, [.dat (bellsD l), .dat (rowD rs), x2, .own (.lst ((P ++ apL l rs js).map apD)), y4, y5, x6, x7, x8])
  | [], P, x4, x5, hj, hn => ⟨x4, x5, by rw [show apL l rs [] = [] from rfl, List.append_nil]; rfl⟩
  | j :: js, P, x4, x5, hj, hn => by
    have h5 := b.hi
    simp only [List.length_cons] at hn
    have h0 := hj j (by simp)
    obtain ⟨z5, t⟩ := ga_inner b hl h0 x2 x6 x7 x8 (List.range j) P x5 (fun i hi => by have := List.mem_range.mp hi; omega) (by rw [List.length_range]; omega)
    have hr := apR_len l rs j (List.range j)
    rw [List.length_range] at hr
    obtain ⟨y4, y5, ih⟩ := ga_outer b hl x2 x6 x7 x8 js (P ++ apR l rs j (List.range j)) (.dat (natI j)) z5 (fun k hk => hj k (by simp [hk])) (by rw [List.length_append]; omega)
    have e : P ++ apR l rs j (List.range j) ++ apL l rs js = P ++ apL l rs (j :: js) := by rw [List.append_assoc]; rfl
    rw [e] at ih
    have e2 : gSet 4 (natI j) [.dat (bellsD l), .dat (rowD rs), x2, .own (.lst (P.map apD)), x4, x5, x6, x7, x8] = some (.ok (), [.dat (bellsD l), .dat (rowD rs), x2, .own (.lst (P.map apD)), .dat (natI j), x5, x6, x7, x8]) := rfl
    have c1 : sCons (cap (sVar 4)) sNil [.dat (bellsD l), .dat (rowD rs), x2, .own (.lst (P.map apD)), .dat (natI j), x5, x6, x7, x8] = some (.ok [.int (j : Int)], [.dat (bellsD l), .dat (rowD rs), x2, .own (.lst (P.map apD)), .dat (natI j), x5, x6, x7, x8]) := rfl
    exact ⟨y4, y5, loopF_nx e2 (sFor_to (sRng_to c1 (range1_n (by omega))) t) ih⟩
/-! ### .. among the bells of a chime -/
def inB (a : List Nat) (q : Nat × Nat) : Bool := decide (q.1 ∈ a) && decide (q.2 ∈ a)
noncomputable abbrev gcT : M Bool := (sAndT (sB (sBin inD (sBin ixD (sVar 8) (sK (.int 0))) (sVar 6))) (sB (sBin inD (sBin ixD (sVar 8) (sK (.int 1))) (sVar 6))))
theorem gc_test (q : Nat × Nat) (a : List Nat) (x0 x1 x2 x3 x4 x5 x7 : Sl) : gcT [x0, x1, x2, x3, x4, x5, .dat (sD a), x7, .dat (apD q)] = some (.ok (inB a q), [x0, x1, x2, x3, x4, x5, .dat (sD a), x7, .dat (apD q)]) := by
  have h1 := in_S q.1 a
  have h2 := in_S q.2 a
  have e1 : ixD (apD q) (.int 0) = some (.dat (L1 q.1)) := rfl
  have e2 : ixD (apD q) (.int 1) = some (.dat (L1 q.2)) := rfl
  unfold inB
  generalize sD a = A at *
  generalize apD q = Q at *
  generalize L1 q.1 = N1 at *
  generalize L1 q.2 = N2 at *
  by_cases g : q.1 ∈ a <;> simp [bnd_ap, e1, e2, h1, h2, g]
noncomputable abbrev gcC : M Rf := (sLc [8] (sIter (sVar 3)) (gSet 8) gcT (sVar 8))
def unP : D → Nat × Nat
  | .tup [x, y] => (unL x, unL y)
  | _ => (0, 0)
theorem unP_ap (q : Nat × Nat) : unP (apD q) = q := rfl
theorem gc_lc {P : List (Nat × Nat)} (hP : P.length ≤ 1000) (a : List Nat) (x3 : Sl) (hx : x3 = .own (.lst (P.map apD)) ∨ x3 = .dat (.lst (P.map apD))) (x0 x1 x2 x4 x5 x7 : Sl) : gcC [x0, x1, x2, x3, x4, x5, .dat (sD a), x7, .un] = some (.ok (.own (.lst ((P.filter (inB a)).map apD))), [x0, x1, x2, .dat (.lst (P.map apD)), x4, x5, .dat (sD a), x7, .un]) := by
  have e := loopL_fmk (g := gSet 8) (ct := gcT) (ce := cap (sVar 8)) (vs := [8]) (Γ0 := [x0, x1, x2, .dat (.lst (P.map apD)), x4, x5, .dat (sD a), x7, .un]) (p := fun d => inB a (unP d)) (f := id) (P.map apD) [] (fun d hd => by
    obtain ⟨q, _, rfl⟩ := List.mem_map.mp hd
    have h := gc_test q a x0 x1 x2 (.dat (.lst (P.map apD))) x4 x5 x7
    exact ⟨_, _, rfl, by rw [unP_ap]; exact h, fun _ => rfl, fun _ => ⟨_, rfl, rfl⟩⟩) (by rw [List.length_map, List.length_nil]; omega)
  have e2 : ((P.map apD).filter fun d => inB a (unP d)) = (P.filter (inB a)).map apD := by
    rw [List.filter_map]; rfl
  rw [e2, List.map_id, List.nil_append] at e
  rcases hx with rfl | rfl
  · exact sLc_to (Γ1 := [x0, x1, x2, .dat (.lst (P.map apD)), x4, x5, .dat (sD a), x7, .un]) (ds := P.map apD) (by simp [bnd_ap]) e
  · exact sLc_to (Γ1 := [x0, x1, x2, .dat (.lst (P.map apD)), x4, x5, .dat (sD a), x7, .un]) (ds := P.map apD) (by simp [bnd_ap]) e
noncomputable abbrev gcB : M Fl := (sSeq (sSet 7 (sBin eqD gcC (sLst sNil)))
 (sIf (sB (sBin neD (sCB reprF (oCons (sCallF (argN 2 F_meets) (sCons (cap (sVar 2)) (sCons (cap (sVar 6)) sNil))) oNil)) (sCB reprF (oCons (sVar 7) oNil))))
 (sRet (sK (.bl false)))
 sSkip))
theorem gc_if {T V A : D} {X : Str} (hm : F_meets [T, A] = some (.ok (.dat V))) (hX : reprF [V] = some (.dat (.str X))) (x2 : Sl) (hx : x2 = .own T ∨ x2 = .dat T) (x0 x1 x3 x4 x5 x8 : Sl) : (sIf (sB (sBin neD (sCB reprF (oCons (sCallF (argN 2 F_meets) (sCons (cap (sVar 2)) (sCons (cap (sVar 6)) sNil))) oNil)) (sCB reprF (oCons (sVar 7) oNil))))
 (sRet (sK (.bl false)))
 sSkip) [x0, x1, x2, x3, x4, x5, .dat A, .dat V, x8] = some (.ok .nx, [x0, x1, .dat T, x3, x4, x5, .dat A, .dat V, x8]) := by
  have e1 := neD_str_same X
  rcases hx with rfl | rfl <;> simp [bnd_ap, hm, hX, e1]
theorem gc_turn {l : List (Nat × Int)} (b : BellsT l) {rs a : List Nat} {P : List (Nat × Nat)} (hP : P.length ≤ 1000) (ha : a ≠ []) (hs : a.Sublist (nmL l)) (hv : ∀ v : Bool, (v = true ↔ ∀ i ∈ idxL (nmL l) a, ∀ j ∈ idxL (nmL l) a, i < j → Fit (perN l) rs i j) → v = (P.filter (inB a)).isEmpty) (x2 x3 : Sl) (hx2 : x2 = .own (songD l rs) ∨ x2 = .dat (songD l rs)) (hx3 : x3 = .own (.lst (P.map apD)) ∨ x3 = .dat (.lst (P.map apD))) (x0 x1 x4 x5 x7 : Sl) : ∃ y7,
    gcB [x0, x1, x2, x3, x4, x5, .dat (sD a), x7, .un] = some (.ok .nx, [x0, x1, .dat (songD l rs), .dat (.lst (P.map apD)), x4, x5, .dat (sD a), y7, .un]) := by
  obtain ⟨v, m1, m2⟩ := meets_ok b rs ha hs
  obtain ⟨X, hX⟩ := bl_repr v
  have e1 := gc_lc hP a x3 hx3 x0 x1 x2 x4 x5 x7
  have e2 : eqD (.lst ((P.filter (inB a)).map apD)) (.lst []) = some (.dat (.bl v)) := by
    rw [eqD_nil fun d hd => by
      obtain ⟨c, _, rfl⟩ := List.mem_map.mp hd
      rfl]
    rw [List.isEmpty_map, hv v m2]
  have e3 : sSet 7 (sBin eqD gcC (sLst sNil)) [x0, x1, x2, x3, x4, x5, .dat (sD a), x7, .un] = some (.ok .nx, [x0, x1, x2, .dat (.lst (P.map apD)), x4, x5, .dat (sD a), .dat (.bl v), .un]) :=
    set_d (i := 7) (Γ1 := [x0, x1, x2, .dat (.lst (P.map apD)), x4, x5, .dat (sD a), x7, .un]) (by simp) (sBin_op (opnd_o e1) (by rfl) e2)
  exact ⟨_, sSeq_to e3 (gc_if m1 hX x2 hx2 x0 x1 _ x4 x5 .un)⟩
theorem gc_loop {l : List (Nat × Int)} (b : BellsT l) {rs : List Nat} {P : List (Nat × Nat)} (hP : P.length ≤ 1000) (x0 x1 x4 x5 : Sl) : ∀ (ys : List (List Nat)) (x2 x3 x6 x7 : Sl), (∀ a ∈ ys, a ≠ [] ∧ a.Sublist (nmL l) ∧ ∀ v : Bool, (v = true ↔ ∀ i ∈ idxL (nmL l) a, ∀ j ∈ idxL (nmL l) a, i < j → Fit (perN l) rs i j) → v = (P.filter (inB a)).isEmpty) → (x2 = .own (songD l rs) ∨ x2 = .dat (songD l rs)) → (x3 = .own (.lst (P.map apD)) ∨ x3 = .dat (.lst (P.map apD))) → ∃ Γ,
    loopF (gSet 6) gcB (ys.map sD) [x0, x1, x2, x3, x4, x5, x6, x7, .un] = some (.ok .nx, Γ)
  | [], x2, x3, x6, x7, hy, hx, hx3 => ⟨_, rfl⟩
  | a :: ys, x2, x3, x6, x7, hy, hx, hx3 => by
    obtain ⟨h1, h2, h3⟩ := hy a (by simp)
    obtain ⟨y7, t⟩ := gc_turn b hP h1 h2 h3 x2 x3 hx hx3 x0 x1 x4 x5 x7
    obtain ⟨Γ, ih⟩ := gc_loop b hP x0 x1 x4 x5 ys (.dat (songD l rs)) (.dat (.lst (P.map apD))) (.dat (sD a)) y7 (fun c hc => hy c (by simp [hc])) (.inr rfl) (.inr rfl)
    have e2 : gSet 6 (sD a) [x0, x1, x2, x3, x4, x5, x6, x7, .un] = some (.ok (), [x0, x1, x2, x3, x4, x5, .dat (sD a), x7, .un]) := rfl
    exact ⟨Γ, loopF_nx e2 t ih⟩
theorem idx_at {l : List (Nat × Int)} {a : List Nat} {i : Nat} : i ∈ idxL (nmL l) a ↔ i < l.length ∧ nmAt l i ∈ a := by
  constructor
  · intro h
    obtain ⟨h1, c, h2, h3⟩ := mem_idxL h
    refine ⟨idx_lt h, ?_⟩
    unfold nmAt
    rw [List.getD, h2]; exact h3
  · rintro ⟨h1, h2⟩
    refine idxL_mem (c := nmAt l i) ?_ h2
    unfold nmAt
    rw [List.getD, List.getElem?_eq_getElem (by rw [nm_len]; exact h1)]; rfl
theorem ap_ok {l : List (Nat × Int)} {rs a : List Nat} (v : Bool) (hv : v = true ↔ ∀ i ∈ idxL (nmL l) a, ∀ j ∈ idxL (nmL l) a, i < j → Fit (perN l) rs i j) : v = ((apL l rs (List.range l.length)).filter (inB a)).isEmpty := by
  have key : ((apL l rs (List.range l.length)).filter (inB a)).isEmpty = true ↔ ∀ i ∈ idxL (nmL l) a, ∀ j ∈ idxL (nmL l) a, i < j → Fit (perN l) rs i j := by
    rw [List.isEmpty_iff, List.filter_eq_nil_iff]
    constructor
    · intro h i hi j hj hij
      obtain ⟨i1, i2⟩ := idx_at.mp hi
      obtain ⟨j1, j2⟩ := idx_at.mp hj
      cases q : badF (perN l) rs i j with
      | false => exact badF_iff.mp q
      | true =>
        refine absurd ?_ (h (nmAt l i, nmAt l j) (List.mem_flatMap.mpr ⟨j, List.mem_range.mpr j1, List.mem_map.mpr ⟨i, List.mem_filter.mpr ⟨List.mem_range.mpr hij, q⟩, rfl⟩⟩))
        unfold inB
        rw [decide_eq_true i2, decide_eq_true j2]; rfl
    · intro h q hq hb
      obtain ⟨j, hj, hq⟩ := List.mem_flatMap.mp hq
      obtain ⟨i, hi, rfl⟩ := List.mem_map.mp hq
      obtain ⟨hi, hbad⟩ := List.mem_filter.mp hi
      unfold inB at hb
      simp only [Bool.and_eq_true, decide_eq_true_eq] at hb
      have hj := List.mem_range.mp hj
      have hi := List.mem_range.mp hi
      have := badF_iff.mpr (h i (idx_at.mpr ⟨by omega, hb.1⟩) j (idx_at.mpr ⟨hj, hb.2⟩) hi)
      rw [this] at hbad; cases hbad
  cases v with
  | true => exact (key.mpr (hv.mp rfl)).symm
  | false =>
    cases q : ((apL l rs (List.range l.length)).filter (inB a)).isEmpty with
    | false => rfl
    | true => exact hv.mpr (key.mp q)
theorem great_run {B R tw so : D} {S A N : List D} {r : Int} {y4 y5 : Sl} {Γ : List Sl} (h1 : F_Tower___init (.ins k_Tower [] []) [B] = some (.ok (.dat .non), tw)) (h2 : F_Song___init (.ins k_Song [] []) [tw, R] = some (.ok (.dat .non), so)) (h3 : lenF [B] = some (.dat (.int r))) (h4 : range1 [.int r] = some N)
    (h5 : loopF (gSet 4) gaO N [.dat B, .dat R, .own so, .own (.lst []), .un, .un, .un, .un, .un] = some (.ok .nx, [.dat B, .dat R, .own so, .own (.lst A), y4, y5, .un, .un, .un]))
    (h6 : F_law_sets [B] = some (.ok (.own (.lst S)))) (h7 : loopF (gSet 6) gcB S [.dat B, .dat R, .own so, .own (.lst A), y4, y5, .un, .un, .un] = some (.ok .nx, Γ)) : F_law_great_right [B, R] = some (.ok (.dat (.bl true))) := by
  refine runDef_to (f := .rt (.dat (.bl true))) (Γ := [.dat B, .dat R, .un, .un, .un, .un, .un, .un, .un]) (Γ' := Γ) rfl ?_ rfl
  refine sSeq_to (Γ' := [.dat B, .dat R, .own so, .own (.lst []), .un, .un, .un, .un, .un]) (by simp [bnd_ap, h1, h2]) ?_
  refine sSeq_to (sFor_to (Γ1 := [.dat B, .dat R, .own so, .own (.lst []), .un, .un, .un, .un, .un]) (ds := N) (by simp [bnd_ap, h3, h4]) h5) ?_
  exact sSeq_to (sFor_to (Γ1 := [.dat B, .dat R, .own so, .own (.lst A), y4, y5, .un, .un, .un]) (ds := S) (by simp [bnd_ap, h6]) h7) (by simp [bnd_ap])
theorem great_right {l : List (Nat × Int)} (b : BellsT l) {rs : List Nat} (h : RowP (perN l) rs) : F_law_great_right [bellsD l, rowD rs] = some (.ok (.dat (.bl true))) := by
  have hl : rs.length = l.length := by rw [h.len, len_pers]
  have h5 := b.hi
  obtain ⟨ys, y1, y2, y3⟩ := sets_ok b
  obtain ⟨y4, y5, e1⟩ := ga_outer b hl (.own (songD l rs)) .un .un .un (List.range l.length) [] .un .un (fun j hj => List.mem_range.mp hj) (by rw [List.length_range, List.length_nil]; omega)
  rw [List.nil_append] at e1
  have hP : (apL l rs (List.range l.length)).length ≤ 1000 := by
    unfold apL
    rw [List.length_flatMap]
    have : ∀ js : List Nat, (∀ j ∈ js, j < l.length) → (js.map fun j => (apR l rs j (List.range j)).length).sum ≤ 5 * js.length := by
      intro js
      induction js with
      | nil => intro _; simp
      | cons j js ih =>
        intro hj
        have h1 := ih fun k hk => hj k (by simp [hk])
        have h2 := apR_len l rs j (List.range j)
        rw [List.length_range] at h2
        have h3 := hj j (by simp)
        rw [List.map_cons, List.sum_cons, List.length_cons]; omega
    have := this (List.range l.length) fun j hj => List.mem_range.mp hj
    rw [List.length_range] at this
    omega
  obtain ⟨Γ, e⟩ := gc_loop b (rs := rs) hP (.dat (bellsD l)) (.dat (rowD rs)) y4 y5 ys (.own (songD l rs)) (.own (.lst ((apL l rs (List.range l.length)).map apD))) .un .un (fun a ha => ⟨(y2 a ha).1, (y2 a ha).2, fun v hv => ap_ok v hv⟩) (.inl rfl) (.inl rfl)
  exact great_run (init_ok b) (song_ok b h) (lenF_bells l) (range1_n (by omega)) e1 y3 e
end Law

namespace Law
open PySem DL G
/-! ### the law -/
theorem s_it {S k s : D} (x2 x3 x4 : Sl) (e : F_law_source [S, k] = some (.ok (.own s))) : sSet 2 (sCallF (argN 2 F_law_source) (sCons (cap (sVar 0)) (sCons (cap (sVar 1)) sNil))) [.dat S, .dat k, x2, x3, x4] = some (.ok .nx, [.dat S, .dat k, .own s, x3, x4]) := by
  simp [bnd_ap, e]
theorem p_it {s s1 s2 B1 B2 : D} (x0 x1 x3 x4 : Sl) (e1 : F_law_bells s [.int 80] = some (.ok (.dat B1), s1)) (e2 : F_law_great_bells s1 [] = some (.ok (.dat B2), s2)) : (sPar [3, 4] (rCons (sCallM (argM 2 F_law_bells) (sVar 2) (sCons (cap (sK (.int 80))) sNil)) (rCons (sCallM (argM 1 F_law_great_bells) (sVar 2) sNil) rNil))) [x0, x1, .own s, x3, x4] = some (.ok .nx, [x0, x1, .own s2, .dat B1, .dat B2]) := by
  simp [bnd_ap, e1, e2]
noncomputable abbrev lwF : M Fl := (sIf (sOrT (sNotT (sB (sCallF (argN 2 F_law_small_right) (sCons (cap (sVar 3)) (sCons (cap (sCallM (argM 2 F_law_row) (sVar 2) (sCons (cap (sVar 3)) sNil))) sNil))))) (sNotT (sB (sCallF (argN 2 F_law_great_right) (sCons (cap (sVar 4)) (sCons (cap (sCallM (argM 2 F_law_row) (sVar 2) (sCons (cap (sVar 4)) sNil))) sNil))))))
 (sRet (sK (.bl false)))
 sSkip)
theorem f_it {s s1 s2 B1 B2 R1 R2 : D} (x0 x1 : Sl) (e1 : F_law_row s [B1] = some (.ok (.dat R1), s1)) (e2 : F_law_small_right [B1, R1] = some (.ok (.dat (.bl true)))) (e3 : F_law_row s1 [B2] = some (.ok (.dat R2), s2)) (e4 : F_law_great_right [B2, R2] = some (.ok (.dat (.bl true)))) : lwF [x0, x1, .own s, .dat B1, .dat B2] = some (.ok .nx, [x0, x1, .own s2, .dat B1, .dat B2]) := by
  simp [bnd_ap, e1, e2, e3, e4]
noncomputable abbrev lwC : M Fl := (sSeq (sSet 2 (sCallF (argN 2 F_law_source) (sCons (cap (sVar 0)) (sCons (cap (sVar 1)) sNil))))
 (sSeq (sPar [3, 4] (rCons (sCallM (argM 2 F_law_bells) (sVar 2) (sCons (cap (sK (.int 80))) sNil)) (rCons (sCallM (argM 1 F_law_great_bells) (sVar 2) sNil) rNil)))
 lwF))
theorem small_round {l : List (Nat × Int)} {per : Int} {hi : Nat} (h : Bells 1 hi per l) (hp : per ≤ 12) (hh : hi ≤ 4) : lcmL 1 (perN l) ≤ 900000 := by
  have h1 := lcm_leB (B := 12) (perN l) 1 fun p hp' => by
    obtain ⟨q, hq, rfl⟩ := List.mem_map.mp hp'
    have := h.per q hq
    show q.2.toNat ≤ 12
    omega
  have h2 : 12 ^ (perN l).length ≤ 12 ^ 4 := Nat.pow_le_pow_right (by decide) (by rw [len_pers]; have := h.hi; omega)
  have h3 : (12 : Nat) ^ 4 = 20736 := by decide
  omega
theorem c_turn (ns : List Int) (k : Nat) (hk : k ≤ 10) (x2 x3 x4 : Sl) : ∃ y2 y3 y4, lwC [.dat (.lst (ns.map .int)), .dat (.int k), x2, x3, x4] = some (.ok .nx, [.dat (.lst (ns.map .int)), .dat (.int k), y2, y3, y4]) := by
  obtain ⟨s, hs, e1⟩ := source_ok ns k
  obtain ⟨s1, l1, b1, hs1, e2⟩ := law_bells_ok (top := 80) hs (by omega) (by omega) (by omega)
  obtain ⟨s2, l2, b2, hs2, e3⟩ := great_ok hs1 (by omega)
  have t1 := b1.t (by omega) (by omega) (by omega)
  have t2 := b2.t (by omega) (by omega) (by omega)
  obtain ⟨s4, rs1, h1, hs4, e5⟩ := row_ok t1 hs2 (by omega)
  obtain ⟨s5, rs2, h2, hs5, e6⟩ := row_ok t2 hs4 (by omega)
  have e7 := small_ok t1 h1 (small_round b1 (by omega) (by omega))
  have e8 := great_right t2 h2
  exact ⟨_, _, _, sSeq_to (s_it x2 x3 x4 e1) (sSeq_to (p_it _ _ x3 x4 e2 e3) (f_it _ _ e5 e7 e6 e8))⟩
theorem c_loop (ns : List Int) : ∀ (ks : List Nat) (x1 x2 x3 x4 : Sl), (∀ k ∈ ks, k ≤ 10) → ∃ y1 y2 y3 y4, loopF (gSet 1) lwC (ks.map natI) [.dat (.lst (ns.map .int)), x1, x2, x3, x4] = some (.ok .nx, [.dat (.lst (ns.map .int)), y1, y2, y3, y4])
  | [], x1, x2, x3, x4, h => ⟨x1, x2, x3, x4, rfl⟩
  | k :: ks, x1, x2, x3, x4, h => by
    obtain ⟨y2, y3, y4, e⟩ := c_turn ns k (h k (by simp)) x2 x3 x4
    obtain ⟨z1, z2, z3, z4, ih⟩ := c_loop ns ks (.dat (.int k)) y2 y3 y4 fun j hj => h j (by simp [hj])
    have e2 : gSet 1 (natI k) [.dat (.lst (ns.map .int)), x1, x2, x3, x4] = some (.ok (), [.dat (.lst (ns.map .int)), .dat (.int k), x2, x3, x4]) := rfl
    exact ⟨z1, z2, z3, z4, loopF_nx e2 e ih⟩
theorem turns_ok (c : Nat) (k : Nat) (hk : k ≤ 1000) : ∃ n : Nat, n ≤ max 1 k ∧ (if (if (c : Int) < (k : Int) then (c : Int) else (k : Int)) > 1 then (if (c : Int) < (k : Int) then (c : Int) else (k : Int)) else 1) = (n : Int) := by
  refine ⟨max 1 (min k c), by omega, ?_⟩
  split <;> split <;> omega
noncomputable abbrev lwK (c : Int) : M (List D) := sRng range1 (sCons (cap (sCB maxF (oCons (sK (.int 1)) (oCons (sCB minF (oCons (sK (.int c)) (oCons (sCB lenF (oCons (sVar 0) oNil)) oNil))) oNil)))) sNil)
theorem k_it {nl : List D} {c n : Nat} {Γ : List Sl} (hn : n ≤ 1000) (h : (if (if (nl.length : Int) < (c : Int) then (nl.length : Int) else (c : Int)) > 1 then (if (nl.length : Int) < (c : Int) then (nl.length : Int) else (c : Int)) else 1) = (n : Int)) : lwK c (.dat (.lst nl) :: Γ) = some (.ok ((List.range n).map natI), .dat (.lst nl) :: Γ) :=
  sRng_to (ds := [.int n]) (by
    rw [← h]
    rfl) (range1_n (by omega))
theorem holds (ns : List Int) (hl : ns.length ≤ 63) : F_law [.lst (ns.map .int)] = some (.ok (.dat (.bl true))) := by
  obtain ⟨n, h1, h2⟩ := turns_ok (ns.map D.int).length 3 (by decide)
  obtain ⟨y1, y2, y3, y4, e⟩ := c_loop ns (List.range n) .un .un .un .un fun k hk => by
    have := List.mem_range.mp hk
    omega
  exact runDef_to (f := .rt (.dat (.bl true))) (Γ := [.dat (.lst (ns.map D.int)), .un, .un, .un, .un]) (Γ' := [.dat (.lst (ns.map D.int)), y1, y2, y3, y4]) rfl (sSeq_to (sFor_to (k_it (c := 3) (by omega) h2) e) rfl) rfl
end Law

namespace G
open PySem PySem.Spec PyProof.Rows L2 DL

theorem exm_of {K : PySem.W.Frag} {C S : Addr} {b : Bool} (h1 : PySem.W.subIn K (.ref S) (.type "BaseException") = some true) (h2 : PySem.W.isClsIn K S = true) (h3 : PySem.W.typeIn K (.ref S) = some (.type "type")) (h4 : PySem.W.subIn K (.ref C) (.ref S) = some b) :
    PySem.W.exmOne K (.ref C) (.ref S) = some b := by
  have e1 : (PySem.W.subIn K (.ref S) (.type "BaseException") == some true) = true := by rw [h1] <;> rfl
  have e2 : ((PySem.W.clsIn K S).isSome && PySem.W.typeIn K (.ref S) == some (.type "type")) = true := by
    have h2' : (PySem.W.clsIn K S).isSome = true := h2
    rw [h2', h3] <;> rfl
  show (if (PySem.W.subIn K (.ref S) (.type "BaseException") == some true) = true then (if ((PySem.W.clsIn K S).isSome && PySem.W.typeIn K (.ref S) == some (.type "type")) = true then PySem.W.subIn K (.ref C) (.ref S) else none) else none) = some b
  rw [if_pos e1, if_pos e2]
  exact h4
theorem kit_cls' {K : PySem.W.Frag} {t : Value} {S : Addr} {b : Bool} (h2 : PySem.W.isClsIn K S = true) (h3 : PySem.W.typeIn K (.ref S) = some (.type "type")) (h4 : PySem.W.subIn K t (.ref S) = some b) : PySem.W.kitCls K t (.ref S) = some b := by
  have e2 : ((PySem.W.clsIn K S).isSome && PySem.W.typeIn K (.ref S) == some (.type "type")) = true := by
    have h2' : (PySem.W.clsIn K S).isSome = true := h2
    rw [h2', h3] <;> rfl
  show (if ((PySem.W.clsIn K S).isSome && PySem.W.typeIn K (.ref S) == some (.type "type")) = true then PySem.W.subIn K t (.ref S) else none) = some b
  rw [if_pos e2]
  exact h4
theorem kit_yes {K : PySem.W.Frag} {C S : Addr} (h2 : PySem.W.isClsIn K S = true) (h3 : PySem.W.typeIn K (.ref S) = some (.type "type")) (h4 : PySem.W.subIn K (.ref C) (.ref S) = some true) : PySem.W.kitOne K (.ref C) (.ref S) = some true := by
  unfold PySem.W.kitOne
  split
  · rfl
  · exact kit_cls' h2 h3 h4
theorem kit_ne {K : PySem.W.Frag} {C S : Addr} {b : Bool} (ne : C ≠ S) (h2 : PySem.W.isClsIn K S = true) (h3 : PySem.W.typeIn K (.ref S) = some (.type "type")) (h4 : PySem.W.subIn K (.ref C) (.ref S) = some b) : PySem.W.kitOne K (.ref C) (.ref S) = some b := by
  unfold PySem.W.kitOne
  split
  · rename_i h
    have h' := beq_iff_eq.mp h
    injection h' with h'
    exact absurd h' ne
  · exact kit_cls' h2 h3 h4
theorem kit_bas {K : PySem.W.Frag} {S : Addr} {n : String} {b : Bool} (h2 : PySem.W.isClsIn K S = true) (h3 : PySem.W.typeIn K (.ref S) = some (.type "type")) (h4 : PySem.W.subIn K (.type n) (.ref S) = some b) : PySem.W.kitOne K (.type n) (.ref S) = some b := by
  unfold PySem.W.kitOne
  split
  · rename_i h
    have h' := beq_iff_eq.mp h
    cases h'
  · exact kit_cls' h2 h3 h4
/-- a def with one default, all its arguments given -/
theorem binds_one {K : PySem.W.Frag} {x qual : Str} {params : Arguments} {body : List Stmt} {scope : Scope} {T f : Addr} {oc kV doc pm cdv ct oT : Value} {od an dT : Option Addr} {osl sT : Array (Option Value)} {n : Nat} {ps : List Str}
    (lk : K.lookup f = some ⟨oc, od, .func (PySem.W.fnOf x qual params body scope (.ref T) kV doc pm an cdv ct), osl⟩) (hcd : PySem.W.codeIn K cdv qual = true) (kp : PySem.W.keepIn K (.ref f) = true)
    (lT : K.lookup T = some ⟨oT, dT, .seq #[.none] n, sT⟩)
    (h : ∀ (T : Addr) (kV doc pm : Value) (an : Option Addr) (cdv ct : Value) (us its : List Value), us.length = ps.length → its.length = 1 →
      ∃ k, bindArgs (PySem.W.fnOf x qual params body scope (.ref T) kV doc pm an cdv ct) ⟨us, []⟩ = seqItems? (.ref T) >>= k ∧ k (some its.toArray) = pure (ps.zip (us ++ its.drop 1))) :
    Binds K (PySem.W.fnOf x qual params body scope (.ref T) kV doc pm an cdv ct) ps [] := by
  intro s us X hl
  rw [List.append_nil] at hl ⊢
  obtain ⟨k, e1, e2⟩ := h T kV doc pm an cdv ct us [.none] hl rfl
  refine L2.BindsTo.of_looks fun M => ?_
  rw [e1]
  refine looks_items X lT rfl (.of_pure ?_)
  rw [e2]
  simp
structure Txt (K : PySem.W.Frag) (mg : Str → Option Value) (cm : Nat → Addr) : Prop where
  b_range : mg "range" = none
  b_max : mg "max" = none
  b_min : mg "min" = none
  b_len : mg "len" = none
  f_law_source : ∃ f fd, mg "_law_source" = some (.ref f) ∧ PySem.W.keepIn K (.ref f) = true ∧ Binds K fd ["_law_script", "_law_k"] [] ∧ Fun K "_law_source" "_law_source" s_law_source f fd
  b_sorted : mg "sorted" = none
  b_list : mg "list" = none
  f_law_next : ∃ f fd, mg "_law_next" = some (.ref f) ∧ PySem.W.keepIn K (.ref f) = true ∧ Binds K fd ["_law_source_here", "_law_many"] [] ∧ Fun K "_law_next" "_law_next" s_law_next f fd
  f_law_mixed : ∃ f fd, mg "_law_mixed" = some (.ref f) ∧ PySem.W.keepIn K (.ref f) = true ∧ Binds K fd ["_law_source_here", "_law_items"] [] ∧ Fun K "_law_mixed" "_law_mixed" s_law_mixed f fd
  b_tuple : mg "tuple" = none
  f_law_great_bells : ∃ f fd, mg "_law_great_bells" = some (.ref f) ∧ PySem.W.keepIn K (.ref f) = true ∧ Binds K fd ["_law_source_here"] [] ∧ Fun K "_law_great_bells" "_law_great_bells" s_law_great_bells f fd
  f_law_bells : ∃ f fd, mg "_law_bells" = some (.ref f) ∧ PySem.W.keepIn K (.ref f) = true ∧ Binds K fd ["_law_source_here", "_law_top"] [] ∧ Fun K "_law_bells" "_law_bells" s_law_bells f fd
  f_law_divisor : ∃ f fd, mg "_law_divisor" = some (.ref f) ∧ PySem.W.keepIn K (.ref f) = true ∧ Binds K fd ["_law_one", "_law_other"] [] ∧ Fun K "_law_divisor" "_law_divisor" s_law_divisor f fd
  f_law_round_of : ∃ f fd, mg "_law_round_of" = some (.ref f) ∧ PySem.W.keepIn K (.ref f) = true ∧ Binds K fd ["_law_bells_here"] [] ∧ Fun K "_law_round_of" "_law_round_of" s_law_round_of f fd
  b_zip : mg "zip" = none
  f_law_at : ∃ f fd, mg "_law_at" = some (.ref f) ∧ PySem.W.keepIn K (.ref f) = true ∧ Binds K fd ["_law_bells_here", "_law_row_here", "_law_time"] [] ∧ Fun K "_law_at" "_law_at" s_law_at f fd
  b_dict : mg "dict" = none
  f_law_tally : ∃ f fd, mg "_law_tally" = some (.ref f) ∧ PySem.W.keepIn K (.ref f) = true ∧ Binds K fd ["_law_bells_here", "_law_row_here"] [] ∧ Fun K "_law_tally" "_law_tally" s_law_tally f fd
  mg_Tower : mg "Tower" = some (.ref (cm 5))
  cl_Tower : Cls K (cm 5)
  na_Tower_own_periods : PySem.W.findIn K (.ref (cm 5)) "own_periods" = some none
  p_Tower_periods : ∃ p f fd, PropOf K (cm 5) "periods" p f ∧ Binds K fd ["self"] [] ∧ Fun K "periods" "Tower.periods" s_Tower_periods f fd
  b_isinstance : mg "isinstance" = none
  ec_BellError : ExcC K (cm 0)
  ec_InvalidTower : ExcC K (cm 1)
  ec_InvalidName : ExcC K (cm 2)
  ec_InvalidFirsts : ExcC K (cm 3)
  ec_InvalidNumber : ExcC K (cm 4)
  ec_Tower : InsC K (cm 5)
  ec_Song : InsC K (cm 6)
  mg_InvalidFirsts : mg "InvalidFirsts" = some (.ref (cm 3))
  ox_InvalidFirsts : OexC K (cm 3)
  ri_InvalidFirsts : ∃ (f : Addr) (oc dV kV dc pm cd ct : Value) (od an : Option Addr) (sl : Array (Option Value)), PySem.W.findIn K (.ref (cm 3)) "__init__" = some (some (.ref f)) ∧ PySem.W.typeIn K (.ref f) = some (.type "function") ∧ Binds K (PySem.W.fnOf "__init__" "InvalidFirsts.__init__" (defArgs s_InvalidFirsts___init) (defBody s_InvalidFirsts___init) (defScope s_InvalidFirsts___init) dV kV dc pm an cd ct) ["self", "index"] [] ∧ K.lookup f = some ⟨oc, od, .func (PySem.W.fnOf "__init__" "InvalidFirsts.__init__" (defArgs s_InvalidFirsts___init) (defBody s_InvalidFirsts___init) (defScope s_InvalidFirsts___init) dV kV dc pm an cd ct), sl⟩ ∧ PySem.W.codeIn K cd "InvalidFirsts.__init__" = true ∧ PySem.W.findIn K (.ref (cm 3)) "index" = some none
  b_enumerate : mg "enumerate" = none
  b_int : mg "int" = none
  b_bool : mg "bool" = none
  f_is_integer : ∃ f fd, mg "is_integer" = some (.ref f) ∧ PySem.W.keepIn K (.ref f) = true ∧ Binds K fd ["value", "least", "most"] [] ∧ Fun K "is_integer" "is_integer" s_is_integer f fd
  f_need_firsts : ∃ f fd, mg "need_firsts" = some (.ref f) ∧ PySem.W.keepIn K (.ref f) = true ∧ Binds K fd ["tower", "value"] [] ∧ Fun K "need_firsts" "need_firsts" s_need_firsts f fd
  mg_Song : mg "Song" = some (.ref (cm 6))
  cl_Song : Cls K (cm 6)
  na_Song_own_tower : PySem.W.findIn K (.ref (cm 6)) "own_tower" = some none
  na_Song_own_firsts : PySem.W.findIn K (.ref (cm 6)) "own_firsts" = some none
  f_pairs_of : ∃ f fd, mg "pairs_of" = some (.ref f) ∧ PySem.W.keepIn K (.ref f) = true ∧ Binds K fd ["many"] [] ∧ Fun K "pairs_of" "pairs_of" s_pairs_of f fd
  f_place_of : ∃ f fd, mg "place_of" = some (.ref f) ∧ PySem.W.keepIn K (.ref f) = true ∧ Binds K fd ["difference", "divisor"] [] ∧ Fun K "place_of" "place_of" s_place_of f fd
  f_divisor_of : ∃ f fd, mg "divisor_of" = some (.ref f) ∧ PySem.W.keepIn K (.ref f) = true ∧ Binds K fd ["one", "other"] [] ∧ Fun K "divisor_of" "divisor_of" s_divisor_of f fd
  f_places_of : ∃ f fd, mg "places_of" = some (.ref f) ∧ PySem.W.keepIn K (.ref f) = true ∧ Binds K fd ["periods", "firsts"] [] ∧ Fun K "places_of" "places_of" s_places_of f fd
  na_Song_own_pattern : PySem.W.findIn K (.ref (cm 6)) "own_pattern" = some none
  na_Tower_own_names : PySem.W.findIn K (.ref (cm 5)) "own_names" = some none
  p_Tower_names : ∃ p f fd, PropOf K (cm 5) "names" p f ∧ Binds K fd ["self"] [] ∧ Fun K "names" "Tower.names" s_Tower_names f fd
  b_all : mg "all" = none
  na_Tower_own_round : PySem.W.findIn K (.ref (cm 5)) "own_round" = some none
  p_Tower_full_round : ∃ p f fd, PropOf K (cm 5) "full_round" p f ∧ Binds K fd ["self"] [] ∧ Fun K "full_round" "Tower.full_round" s_Tower_full_round f fd
  f_common_multiple : ∃ f fd, mg "common_multiple" = some (.ref f) ∧ PySem.W.keepIn K (.ref f) = true ∧ Binds K fd ["numbers"] [] ∧ Fun K "common_multiple" "common_multiple" s_common_multiple f fd
  f_meeting_counts : ∃ f fd, mg "meeting_counts" = some (.ref f) ∧ PySem.W.keepIn K (.ref f) = true ∧ Binds K fd ["tower", "places"] [] ∧ Fun K "meeting_counts" "meeting_counts" s_meeting_counts f fd
  f_bit_count_of : ∃ f fd, mg "bit_count_of" = some (.ref f) ∧ PySem.W.keepIn K (.ref f) = true ∧ Binds K fd ["bits"] [] ∧ Fun K "bit_count_of" "bit_count_of" s_bit_count_of f fd
  f_counts_of : ∃ f fd, mg "counts_of" = some (.ref f) ∧ PySem.W.keepIn K (.ref f) = true ∧ Binds K fd ["tower", "places"] [] ∧ Fun K "counts_of" "counts_of" s_counts_of f fd
  na_Song_own_chimes : PySem.W.findIn K (.ref (cm 6)) "own_chimes" = some none
  i_Song : ∃ f fd, Mk K (cm 6) f ∧ Binds K fd ["self", "tower", "firsts"] [] ∧ Fun K "__init__" "Song.__init__" s_Song___init f fd
  cv_Tower_MAX_BELLS : ∃ mc u, ClX.CRead K (cm 5) mc ∧ ClX.CVal K (cm 5) mc "MAX_BELLS" (.int 5) u
  b_str : mg "str" = none
  g_LETTERS : ∃ t, mg "LETTERS" = some (.str "abcdefghijklmnopqrstuvwxyz" t)
  f_is_name : ∃ f fd, mg "is_name" = some (.ref f) ∧ PySem.W.keepIn K (.ref f) = true ∧ Binds K fd ["value"] [] ∧ Fun K "is_name" "is_name" s_is_name f fd
  cv_Tower_MAX_PERIOD : ∃ mc u, ClX.CRead K (cm 5) mc ∧ ClX.CVal K (cm 5) mc "MAX_PERIOD" (.int 30) u
  f_is_bell : ∃ f fd, mg "is_bell" = some (.ref f) ∧ PySem.W.keepIn K (.ref f) = true ∧ Binds K fd ["value"] [] ∧ Fun K "is_bell" "is_bell" s_is_bell f fd
  f_tower_faults : ∃ f fd, mg "tower_faults" = some (.ref f) ∧ PySem.W.keepIn K (.ref f) = true ∧ Binds K fd ["value"] [] ∧ Fun K "tower_faults" "tower_faults" s_tower_faults f fd
  mg_InvalidTower : mg "InvalidTower" = some (.ref (cm 1))
  ox_InvalidTower : OexC K (cm 1)
  ri_InvalidTower : ∃ (f : Addr) (oc dV kV dc pm cd ct : Value) (od an : Option Addr) (sl : Array (Option Value)), PySem.W.findIn K (.ref (cm 1)) "__init__" = some (some (.ref f)) ∧ PySem.W.typeIn K (.ref f) = some (.type "function") ∧ Binds K (PySem.W.fnOf "__init__" "InvalidTower.__init__" (defArgs s_InvalidTower___init) (defBody s_InvalidTower___init) (defScope s_InvalidTower___init) dV kV dc pm an cd ct) ["self", "index"] [] ∧ K.lookup f = some ⟨oc, od, .func (PySem.W.fnOf "__init__" "InvalidTower.__init__" (defArgs s_InvalidTower___init) (defBody s_InvalidTower___init) (defScope s_InvalidTower___init) dV kV dc pm an cd ct), sl⟩ ∧ PySem.W.codeIn K cd "InvalidTower.__init__" = true ∧ PySem.W.findIn K (.ref (cm 1)) "index" = some none
  na_Tower_own_bells : PySem.W.findIn K (.ref (cm 5)) "own_bells" = some none
  i_Tower : ∃ f fd, Mk K (cm 5) f ∧ Binds K fd ["self", "bells"] [] ∧ Fun K "__init__" "Tower.__init__" s_Tower___init f fd
  f_law_sets : ∃ f fd, mg "_law_sets" = some (.ref f) ∧ PySem.W.keepIn K (.ref f) = true ∧ Binds K fd ["_law_bells_here"] [] ∧ Fun K "_law_sets" "_law_sets" s_law_sets f fd
  b_repr : mg "repr" = none
  p_Song_pattern : ∃ p f fd, PropOf K (cm 6) "pattern" p f ∧ Binds K fd ["self"] [] ∧ Fun K "pattern" "Song.pattern" s_Song_pattern f fd
  l_Tower : ∃ f fd, PySem.W.findIn K (.ref (cm 5)) "__len__" = some (some (.ref f)) ∧ PySem.W.isFn K (.ref f) = true ∧ Binds K fd ["self"] [] ∧ Fun K "__len__" "Tower.__len__" s_Tower___len f fd
  p_Song_tower : ∃ p f fd, PropOf K (cm 6) "tower" p f ∧ Binds K fd ["self"] [] ∧ Fun K "tower" "Song.tower" s_Song_tower f fd
  f_do_meet : ∃ f fd, mg "do_meet" = some (.ref f) ∧ PySem.W.keepIn K (.ref f) = true ∧ Binds K fd ["song", "members"] [] ∧ Fun K "do_meet" "do_meet" s_do_meet f fd
  f_is_chime : ∃ f fd, mg "is_chime" = some (.ref f) ∧ PySem.W.keepIn K (.ref f) = true ∧ Binds K fd ["names", "value"] [] ∧ Fun K "is_chime" "is_chime" s_is_chime f fd
  mg_InvalidName : mg "InvalidName" = some (.ref (cm 2))
  ox_InvalidName : OexC K (cm 2)
  ri_InvalidName : ∃ (f : Addr) (oc dV kV dc pm cd ct : Value) (od an : Option Addr) (sl : Array (Option Value)), PySem.W.findIn K (.ref (cm 2)) "__init__" = some (some (.ref f)) ∧ PySem.W.typeIn K (.ref f) = some (.type "function") ∧ Binds K (PySem.W.fnOf "__init__" "InvalidName.__init__" (defArgs s_InvalidName___init) (defBody s_InvalidName___init) (defScope s_InvalidName___init) dV kV dc pm an cd ct) ["self", "value"] [] ∧ K.lookup f = some ⟨oc, od, .func (PySem.W.fnOf "__init__" "InvalidName.__init__" (defArgs s_InvalidName___init) (defBody s_InvalidName___init) (defScope s_InvalidName___init) dV kV dc pm an cd ct), sl⟩ ∧ PySem.W.codeIn K cd "InvalidName.__init__" = true ∧ PySem.W.findIn K (.ref (cm 2)) "value" = some none
  f_members_of : ∃ f fd, mg "members_of" = some (.ref f) ∧ PySem.W.keepIn K (.ref f) = true ∧ Binds K fd ["song", "names"] [] ∧ Fun K "members_of" "members_of" s_members_of f fd
  f_meets : ∃ f fd, mg "meets" = some (.ref f) ∧ PySem.W.keepIn K (.ref f) = true ∧ Binds K fd ["song", "names"] [] ∧ Fun K "meets" "meets" s_meets f fd
  f_law_small_right : ∃ f fd, mg "_law_small_right" = some (.ref f) ∧ PySem.W.keepIn K (.ref f) = true ∧ Binds K fd ["_law_bells_here", "_law_row_here"] [] ∧ Fun K "_law_small_right" "_law_small_right" s_law_small_right f fd
  f_law_row : ∃ f fd, mg "_law_row" = some (.ref f) ∧ PySem.W.keepIn K (.ref f) = true ∧ Binds K fd ["_law_source_here", "_law_bells_here"] [] ∧ Fun K "_law_row" "_law_row" s_law_row f fd
  f_law_great_right : ∃ f fd, mg "_law_great_right" = some (.ref f) ∧ PySem.W.keepIn K (.ref f) = true ∧ Binds K fd ["_law_bells_here", "_law_row_here"] [] ∧ Fun K "_law_great_right" "_law_great_right" s_law_great_right f fd
section
variable {P : Program} {w : World} {K : PySem.W.Frag} {mg : Str → Option Value} {base : Heap} {cm : Nat → Addr}
theorem isi_X (X : Txt K mg cm) : IsiF K cm isE isTb (fun _ _ => none) isBt where
  exc := by
    intro c h hh
    unfold isE at h
    split at h
    · exact X.ec_BellError
    · exact X.ec_InvalidTower
    · exact X.ec_InvalidName
    · exact X.ec_InvalidFirsts
    · exact X.ec_InvalidNumber
    · cases h
  ins := by
    intro c h hh
    rcases hh with ⟨c', b, e⟩ | ⟨n, b, e⟩
    · unfold isTb at e
      split at e
      all_goals first | exact X.ec_Tower | exact X.ec_Song | (cases e; done) | (simp [isE] at h; done)
    · cases e
  own := by
    intro c c' b h
    unfold isTb at h
    split at h
    all_goals first  | cases h
  typ := by
    intro c n b h
    cases h
  bas := by
    intro c n h
    unfold isBt at h
    split at h
    · cases h
theorem rz_InvalidFirsts (X : Txt K mg cm) : DefEx1 P w K mg base cm "InvalidFirsts" 3 "index" := by
  obtain ⟨f, oc, dV, kV, dc, pm, cd, ct, od, an, sl, h1, h2, h3, h4, h5, h6⟩ := X.ri_InvalidFirsts
  exact ⟨f, _, _, X.mg_InvalidFirsts, X.ox_InvalidFirsts, h1, h2, h3, okExc1 h4 h5 sc_InvalidFirsts___init rfl X.ox_InvalidFirsts h6⟩
theorem rz_InvalidTower (X : Txt K mg cm) : DefEx1 P w K mg base cm "InvalidTower" 1 "index" := by
  obtain ⟨f, oc, dV, kV, dc, pm, cd, ct, od, an, sl, h1, h2, h3, h4, h5, h6⟩ := X.ri_InvalidTower
  exact ⟨f, _, _, X.mg_InvalidTower, X.ox_InvalidTower, h1, h2, h3, okExc1 h4 h5 sc_InvalidTower___init rfl X.ox_InvalidTower h6⟩
theorem rz_InvalidName (X : Txt K mg cm) : DefEx1 P w K mg base cm "InvalidName" 2 "value" := by
  obtain ⟨f, oc, dV, kV, dc, pm, cd, ct, od, an, sl, h1, h2, h3, h4, h5, h6⟩ := X.ri_InvalidName
  exact ⟨f, _, _, X.mg_InvalidName, X.ox_InvalidName, h1, h2, h3, okExc1 h4 h5 sc_InvalidName___init rfl X.ox_InvalidName h6⟩
theorem b_law_source (X : Txt K mg cm) {f : Addr} {cdv : Value} {A : Around} {outer : List Env} {s : Shared} {H : Hp} {E : XK} (ck : Cok (dtx P w K mg base cm ["_law_script", "_law_k", "_law_cell"] "_law_source" (defScope s_law_source) f cdv A outer s H E none) 1) : RSs (dtx P w K mg base cm ["_law_script", "_law_k", "_law_cell"] "_law_source" (defScope s_law_source) f cdv A outer s H E none) (defBody s_law_source) c_law_source :=
 (rss_cons (rs_set 2 (re_ifE (rt_cmp (op_neDD ck.room) (re_var 0) (re_lst ra_nil)) (re_ix (re_var 0) (re_bin op_modD (re_var 1) (re_callB call_lenF X.b_len (ro_cons (re_var 0) ro_nil)))) re_int) ck.nd)
 (rss_one (rs_ret (re_lst (ra_cons (re_var 2) (ra_cons (re_bin op_mulD re_int (re_var 1)) (ra_cons (re_ifE (rt_cmp op_geD (re_var 2) (re_bin op_powD re_int re_int)) (re_bin op_divD (re_var 2) (re_bin op_powD re_int re_int)) re_int) ra_nil)))))))
theorem ok_law_source (X : Txt K mg cm) : DefP P w K mg base cm 2 "_law_source" ["_law_script", "_law_k"] F_law_source := by
  obtain ⟨f, fd, h1, h2, h3, Fu⟩ := X.f_law_source
  exact ⟨f, fd, h1, h2, h3, (def_pure Fu sc_law_source fun cdv A outer s H E ck => b_law_source X ck)⟩
theorem b_law_next (X : Txt K mg cm) {a : Addr} {f : Addr} {cdv : Value} {A : Around} {outer : List Env} {s : Shared} {H : Hp} {E : XK} (ck : Cok (dtx P w K mg base cm ["_law_source_here", "_law_many", "_law_found", "_law_primes", "_law_prime"] "_law_next" (defScope s_law_next) f cdv A outer s H E (some a)) 1) : RSs (dtx P w K mg base cm ["_law_source_here", "_law_many", "_law_found", "_law_primes", "_law_prime"] "_law_next" (defScope s_law_next) f cdv A outer s H E (some a)) (defBody s_law_next) c_law_next :=
 (rss_cons (rs_if (rt_cmp op_gtD (re_ix (re_var 0) re_int) re_int)
 (rss_cons (rs_set 2 (re_bin op_modD (re_ix (re_var 0) re_int) (re_var 1)) ck.nd)
 (rss_cons (rs_asg (re_bin op_divD (re_ix (re_var 0) re_int) (re_var 1)) (rg_ix (re_var 0) re_int))
 (rss_one (rs_ret (re_var 2)))))
 rss_nil)
 (rss_cons (rs_asg (re_bin op_addD (re_ix (re_var 0) re_int) re_int) (rg_ix (re_var 0) re_int))
 (rss_cons (rs_set 3 (re_lst (ra_cons re_int (ra_cons re_int (ra_cons re_int (ra_cons re_int (ra_cons re_int (ra_cons re_int (ra_cons re_int (ra_cons re_int ra_nil))))))))) ck.nd)
 (rss_cons (rs_set 4 (re_ix (re_bin op_addD (re_var 3) (re_lst (ra_cons re_int (ra_cons re_int (ra_cons re_int ra_nil))))) (re_bin op_modD (re_ix (re_var 0) re_int) re_int)) ck.nd)
 (rss_one (rs_ret (re_bin op_modD (re_bin op_divD (re_bin op_modD (re_bin op_powD (re_bin op_addD (re_bin op_addD (re_bin op_modD (re_ix (re_var 0) re_int) (re_var 4)) (re_bin op_mulD re_int (re_ix (re_var 0) re_int))) re_int) re_int) (re_var 4)) re_int) (re_var 1))))))))
theorem ok_law_next (X : Txt K mg cm) : DefM P w K mg base cm 2 "_law_next" ["_law_source_here", "_law_many"] F_law_next := by
  obtain ⟨f, fd, h1, h2, h3, Fu⟩ := X.f_law_next
  exact ⟨f, fd, h1, h2, h3, (def_lent Fu sc_law_next (by decide) fun a cdv A outer s H E ck => b_law_next X ck)⟩
theorem b_law_mixed (X : Txt K mg cm) {a : Addr} {f : Addr} {cdv : Value} {A : Around} {outer : List Env} {s : Shared} {H : Hp} {E : XK} (ck : Cok (dtx P w K mg base cm ["_law_source_here", "_law_items", "_law_rest", "_law_found"] "_law_mixed" (defScope s_law_mixed) f cdv A outer s H E (some a)) 2) : RSs (dtx P w K mg base cm ["_law_source_here", "_law_items", "_law_rest", "_law_found"] "_law_mixed" (defScope s_law_mixed) f cdv A outer s H E (some a)) (defBody s_law_mixed) c_law_mixed :=
 (rss_cons (rs_par2 2 3 (rr_cons (re_callTy (call_listF ck.calm) X.b_list (ro_cons (re_var 1) ro_nil)) (rr_cons (re_lst ra_nil) rr_nil)) ck.calm ck.nd)
 (rss_cons (rs_while ck.own (rt_cmp (op_neDD ck.room) (re_var 2) (re_lst ra_nil))
 (rss_one (rs_expr (re_append (re_var 3) (ra_cons (re_popAt (re_var 2) (ra_cons (re_callM (ok_law_next X) (ck.mono (by decide)) (re_var 0) (ra_cons (re_callB call_lenF X.b_len (ro_cons (re_var 2) ro_nil)) ra_nil)) ra_nil)) ra_nil)))))
 (rss_one (rs_ret (re_var 3)))))
theorem ok_law_mixed (X : Txt K mg cm) : DefM P w K mg base cm 3 "_law_mixed" ["_law_source_here", "_law_items"] F_law_mixed := by
  obtain ⟨f, fd, h1, h2, h3, Fu⟩ := X.f_law_mixed
  exact ⟨f, fd, h1, h2, h3, (def_lent Fu sc_law_mixed (by decide) fun a cdv A outer s H E ck => b_law_mixed X ck)⟩
theorem b_law_great_bells (X : Txt K mg cm) {a : Addr} {f : Addr} {cdv : Value} {A : Around} {outer : List Env} {s : Shared} {H : Hp} {E : XK} (ck : Cok (dtx P w K mg base cm ["_law_source_here", "_law_names", "_law_name"] "_law_great_bells" (defScope s_law_great_bells) f cdv A outer s H E (some a)) 3) : RSs (dtx P w K mg base cm ["_law_source_here", "_law_names", "_law_name"] "_law_great_bells" (defScope s_law_great_bells) f cdv A outer s H E (some a)) (defBody s_law_great_bells) c_law_great_bells :=
 (rss_cons (rs_set 1 (re_callB (call_sortedF ck) X.b_sorted (ro_cons (re_sli (re_callM (ok_law_mixed X) (ck.mono (by decide)) (re_var 0) (ra_cons (re_callTy (call_listF ck.calm) X.b_list (ro_cons re_str ro_nil)) ra_nil)) roN (roS (re_bin op_addD re_int (re_callM (ok_law_next X) (ck.mono (by decide)) (re_var 0) (ra_cons re_int ra_nil))))) ro_nil)) ck.nd)
 (rss_one (rs_ret (re_callTy call_tupleF X.b_tuple (ro_cons (re_lc [("_law_name", 2)] ck (ri_seq (re_var 1)) (fun s H C cl fp => (rgw_name 2 (ck.blk _ _ _ _ _).nd)) (fun s H C cl fp => rts_nil) (fun s H C cl fp => (re_tup (ra_cons (re_var 2) (ra_cons (re_bin op_addD re_int (re_callM (ok_law_next X) ((ck.blk _ _ _ _ _).mono (by decide)) (re_var 0) (ra_cons re_int ra_nil))) ra_nil)))) (ok := by show blkC ["_law_source_here", "_law_names", "_law_name"] (defScope s_law_great_bells) _ [("_law_name", 2)] = true; decide +kernel)) ro_nil)))))
theorem ok_law_great_bells (X : Txt K mg cm) : DefM P w K mg base cm 4 "_law_great_bells" ["_law_source_here"] F_law_great_bells := by
  obtain ⟨f, fd, h1, h2, h3, Fu⟩ := X.f_law_great_bells
  exact ⟨f, fd, h1, h2, h3, (def_lent Fu sc_law_great_bells (by decide) fun a cdv A outer s H E ck => b_law_great_bells X ck)⟩
theorem b_law_bells (X : Txt K mg cm) {a : Addr} {f : Addr} {cdv : Value} {A : Around} {outer : List Env} {s : Shared} {H : Hp} {E : XK} (ck : Cok (dtx P w K mg base cm ["_law_source_here", "_law_top", "_law_found", "_law_room", "_law_name", "_law_period"] "_law_bells" (defScope s_law_bells) f cdv A outer s H E (some a)) 3) : RSs (dtx P w K mg base cm ["_law_source_here", "_law_top", "_law_found", "_law_room", "_law_name", "_law_period"] "_law_bells" (defScope s_law_bells) f cdv A outer s H E (some a)) (defBody s_law_bells) c_law_bells :=
 (rss_cons (rs_par2 2 3 (rr_cons (re_lst ra_nil) (rr_cons (re_var 1) rr_nil)) ck.calm ck.nd)
 (rss_cons (rs_for ck.own ck.calm (ri_seq (re_callB (call_sortedF ck) X.b_sorted (ro_cons (re_sli (re_callM (ok_law_mixed X) (ck.mono (by decide)) (re_var 0) (ra_cons (re_callTy (call_listF ck.calm) X.b_list (ro_cons re_str ro_nil)) ra_nil)) roN (roS (re_bin op_addD re_int (re_callM (ok_law_next X) (ck.mono (by decide)) (re_var 0) (ra_cons re_int ra_nil))))) ro_nil))) (rg_name 4 ck.nd)
 (rss_cons (rs_set 5 (re_bin op_addD re_int (re_callM (ok_law_next X) (ck.mono (by decide)) (re_var 0) (ra_cons (re_callB (call_minF ck.calm) X.b_min (ro_cons (re_var 3) (ro_cons re_int ro_nil))) ra_nil))) ck.nd)
 (rss_cons (rs_expr (re_append (re_var 2) (ra_cons (re_tup (ra_cons (re_var 4) (ra_cons (re_var 5) ra_nil))) ra_nil)))
 (rss_one (rs_set 3 (re_bin op_divD (re_var 3) (re_var 5)) ck.nd)))))
 (rss_one (rs_ret (re_callTy call_tupleF X.b_tuple (ro_cons (re_var 2) ro_nil))))))
theorem ok_law_bells (X : Txt K mg cm) : DefM P w K mg base cm 4 "_law_bells" ["_law_source_here", "_law_top"] F_law_bells := by
  obtain ⟨f, fd, h1, h2, h3, Fu⟩ := X.f_law_bells
  exact ⟨f, fd, h1, h2, h3, (def_lent Fu sc_law_bells (by decide) fun a cdv A outer s H E ck => b_law_bells X ck)⟩
theorem b_law_divisor (X : Txt K mg cm) {f : Addr} {cdv : Value} {A : Around} {outer : List Env} {s : Shared} {H : Hp} {E : XK} (ck : Cok (dtx P w K mg base cm ["_law_one", "_law_other"] "_law_divisor" (defScope s_law_divisor) f cdv A outer s H E none) 1) : RSs (dtx P w K mg base cm ["_law_one", "_law_other"] "_law_divisor" (defScope s_law_divisor) f cdv A outer s H E none) (defBody s_law_divisor) c_law_divisor :=
 (rss_cons (rs_while ck.own (rt_cmp (op_neDD ck.room) (re_var 1) re_int)
 (rss_one (rs_par2 0 1 (rr_cons (re_var 1) (rr_cons (re_bin op_modD (re_var 0) (re_var 1)) rr_nil)) ck.calm ck.nd)))
 (rss_one (rs_ret (re_var 0))))
theorem ok_law_divisor (X : Txt K mg cm) : DefP P w K mg base cm 2 "_law_divisor" ["_law_one", "_law_other"] F_law_divisor := by
  obtain ⟨f, fd, h1, h2, h3, Fu⟩ := X.f_law_divisor
  exact ⟨f, fd, h1, h2, h3, (def_pure Fu sc_law_divisor fun cdv A outer s H E ck => b_law_divisor X ck)⟩
theorem b_law_round_of (X : Txt K mg cm) {f : Addr} {cdv : Value} {A : Around} {outer : List Env} {s : Shared} {H : Hp} {E : XK} (ck : Cok (dtx P w K mg base cm ["_law_bells_here", "_law_found", "_law_name", "_law_period"] "_law_round_of" (defScope s_law_round_of) f cdv A outer s H E none) 2) : RSs (dtx P w K mg base cm ["_law_bells_here", "_law_found", "_law_name", "_law_period"] "_law_round_of" (defScope s_law_round_of) f cdv A outer s H E none) (defBody s_law_round_of) c_law_round_of :=
 (rss_cons (rs_set 1 re_int ck.nd)
 (rss_cons (rs_for ck.own ck.calm (ri_seq (re_var 0)) (rg_tup (rgs_cons (rg_name 2 ck.nd) (rgs_cons (rg_name 3 ck.nd) rgs_nil)) ck.calm)
 (rss_one (rs_set 1 (re_bin op_divD (re_bin op_mulD (re_var 1) (re_var 3)) (re_call (ok_law_divisor X) (ck.mono (by decide)) (ra_cons (re_var 1) (ra_cons (re_var 3) ra_nil)))) ck.nd)))
 (rss_one (rs_ret (re_var 1)))))
theorem ok_law_round_of (X : Txt K mg cm) : DefP P w K mg base cm 3 "_law_round_of" ["_law_bells_here"] F_law_round_of := by
  obtain ⟨f, fd, h1, h2, h3, Fu⟩ := X.f_law_round_of
  exact ⟨f, fd, h1, h2, h3, (def_pure Fu sc_law_round_of fun cdv A outer s H E ck => b_law_round_of X ck)⟩
theorem b_law_at (X : Txt K mg cm) {f : Addr} {cdv : Value} {A : Around} {outer : List Env} {s : Shared} {H : Hp} {E : XK} (ck : Cok (dtx P w K mg base cm ["_law_bells_here", "_law_row_here", "_law_time", "_law_found", "_law_name", "_law_period", "_law_x"] "_law_at" (defScope s_law_at) f cdv A outer s H E none) 1) : RSs (dtx P w K mg base cm ["_law_bells_here", "_law_row_here", "_law_time", "_law_found", "_law_name", "_law_period", "_law_x"] "_law_at" (defScope s_law_at) f cdv A outer s H E none) (defBody s_law_at) c_law_at :=
 (rss_cons (rs_set 3 re_str ck.nd)
 (rss_cons (rs_for ck.own ck.calm (ri_zip2 (ra_cons (re_var 0) (ra_cons (re_var 1) ra_nil)) X.b_zip) (rg_tup (rgs_cons (rg_tup (rgs_cons (rg_name 4 ck.nd) (rgs_cons (rg_name 5 ck.nd) rgs_nil)) ck.calm) (rgs_cons (rg_name 6 ck.nd) rgs_nil)) ck.calm)
 (rss_one (rs_set 3 (re_bin op_addD (re_var 3) (re_ifE (rt_cmp (op_eqDD ck.room) (re_bin op_modD (re_var 2) (re_var 5)) (re_var 6)) (re_var 4) re_str)) ck.nd)))
 (rss_one (rs_ret (re_var 3)))))
theorem ok_law_at (X : Txt K mg cm) : DefP P w K mg base cm 2 "_law_at" ["_law_bells_here", "_law_row_here", "_law_time"] F_law_at := by
  obtain ⟨f, fd, h1, h2, h3, Fu⟩ := X.f_law_at
  exact ⟨f, fd, h1, h2, h3, (def_pure Fu sc_law_at fun cdv A outer s H E ck => b_law_at X ck)⟩
theorem b_law_tally (X : Txt K mg cm) {f : Addr} {cdv : Value} {A : Around} {outer : List Env} {s : Shared} {H : Hp} {E : XK} (ck : Cok (dtx P w K mg base cm ["_law_bells_here", "_law_row_here", "_law_found", "_law_time", "_law_chime"] "_law_tally" (defScope s_law_tally) f cdv A outer s H E none) 3) : RSs (dtx P w K mg base cm ["_law_bells_here", "_law_row_here", "_law_found", "_law_time", "_law_chime"] "_law_tally" (defScope s_law_tally) f cdv A outer s H E none) (defBody s_law_tally) c_law_tally :=
 (rss_cons (rs_set 2 re_dic0 ck.nd)
 (rss_cons (rs_for ck.own ck.calm (ri_range1 (ra_cons (re_call (ok_law_round_of X) (ck.mono (by decide)) (ra_cons (re_var 0) ra_nil)) ra_nil) X.b_range) (rg_name 3 ck.nd)
 (rss_cons (rs_set 4 (re_call (ok_law_at X) (ck.mono (by decide)) (ra_cons (re_var 0) (ra_cons (re_var 1) (ra_cons (re_var 3) ra_nil)))) ck.nd)
 (rss_one (rs_if (rt_cmp (op_neDD ck.room) (re_var 4) re_str)
 (rss_one (rs_asg (re_bin op_addD (re_get ck (re_var 2) (re_var 4) re_int) re_int) (rg_dx ck (re_var 2) (re_var 4))))
 rss_nil))))
 (rss_one (rs_ret (re_callTy (call_dictF ck.calm) X.b_dict (ro_cons (re_lc [("_law_chime", 4)] ck (ri_seq (re_callB (call_sortedD2 ck.calm) X.b_sorted (ro_cons (re_var 2) ro_nil))) (fun s H C cl fp => (rgw_name 4 (ck.blk _ _ _ _ _).nd)) (fun s H C cl fp => rts_nil) (fun s H C cl fp => (re_tup (ra_cons (re_var 4) (ra_cons (re_dget (ck.blk _ _ _ _ _) (re_var 2) (re_var 4)) ra_nil)))) (ok := by show blkC ["_law_bells_here", "_law_row_here", "_law_found", "_law_time", "_law_chime"] (defScope s_law_tally) _ [("_law_chime", 4)] = true; decide +kernel)) ro_nil))))))
theorem ok_law_tally (X : Txt K mg cm) : DefP P w K mg base cm 4 "_law_tally" ["_law_bells_here", "_law_row_here"] F_law_tally := by
  obtain ⟨f, fd, h1, h2, h3, Fu⟩ := X.f_law_tally
  exact ⟨f, fd, h1, h2, h3, (def_pure Fu sc_law_tally fun cdv A outer s H E ck => b_law_tally X ck)⟩
theorem b_Tower_periods (X : Txt K mg cm) {f : Addr} {cdv : Value} {A : Around} {outer : List Env} {s : Shared} {H : Hp} {E : XK} (ck : Cok (dtx P w K mg base cm ["self"] "Tower.periods" (defScope s_Tower_periods) f cdv A outer s H E none) 1) : RSs (dtx P w K mg base cm ["self"] "Tower.periods" (defScope s_Tower_periods) f cdv A outer s H E none) (defBody s_Tower_periods) c_Tower_periods :=
 (rss_one (rs_ret (re_fld 5 X.cl_Tower X.na_Tower_own_periods (re_var 0))))
theorem pr_Tower_periods (X : Txt K mg cm) : DefPr P w K mg base cm 2 5 "periods" F_Tower_periods := by
  obtain ⟨p, f, fd, h1, h2, Fu⟩ := X.p_Tower_periods
  exact ⟨p, f, fd, X.cl_Tower, h1, h2, (def_pure Fu sc_Tower_periods fun cdv A outer s H E ck => b_Tower_periods X ck)⟩
theorem b_is_integer (X : Txt K mg cm) {f : Addr} {cdv : Value} {A : Around} {outer : List Env} {s : Shared} {H : Hp} {E : XK} (ck : Cok (dtx P w K mg base cm ["value", "least", "most"] "is_integer" (defScope s_is_integer) f cdv A outer s H E none) 1) : RSs (dtx P w K mg base cm ["value", "least", "most"] "is_integer" (defScope s_is_integer) f cdv A outer s H E none) (defBody s_is_integer) c_is_integer :=
 (rss_cons (rs_if (RW.rt (rw_or (rt_not (rt_val (re_callB (call_isiO (isi_X X)) X.b_isinstance (ro_cons (re_var 0) (ro_cons (re_ty X.b_int) ro_nil))))) (rw_or1 (rt_val (re_callB (call_isiO (isi_X X)) X.b_isinstance (ro_cons (re_var 0) (ro_cons (re_ty X.b_bool) ro_nil)))))))
 (rss_one (rs_ret re_bl))
 rss_nil)
 (rss_one (rs_ret (re_and (re_orV (re_isN (re_var 1)) (re_one (re_cmp op_leD (re_var 1) (re_var 0)))) (re_one (re_orV (re_isN (re_var 2)) (re_one (re_cmp op_leD (re_var 0) (re_var 2)))))))))
theorem ok_is_integer (X : Txt K mg cm) : DefP P w K mg base cm 2 "is_integer" ["value", "least", "most"] F_is_integer := by
  obtain ⟨f, fd, h1, h2, h3, Fu⟩ := X.f_is_integer
  exact ⟨f, fd, h1, h2, h3, (def_pure Fu sc_is_integer fun cdv A outer s H E ck => b_is_integer X ck)⟩
theorem b_need_firsts (X : Txt K mg cm) {f : Addr} {cdv : Value} {A : Around} {outer : List Env} {s : Shared} {H : Hp} {E : XK} (ck : Cok (dtx P w K mg base cm ["tower", "value", "periods", "index", "period"] "need_firsts" (defScope s_need_firsts) f cdv A outer s H E none) 4) : RSs (dtx P w K mg base cm ["tower", "value", "periods", "index", "period"] "need_firsts" (defScope s_need_firsts) f cdv A outer s H E none) (defBody s_need_firsts) c_need_firsts :=
 (rss_cons (rs_set 2 (re_prop 5 (pr_Tower_periods X) (ck.mono (by decide)) (re_var 0)) ck.nd)
 (rss_cons (rs_if (RW.rt (rw_or (rt_not (rt_val (re_callB (call_isiO (isi_X X)) X.b_isinstance (ro_cons (re_var 1) (ro_cons (re_ty X.b_tuple) ro_nil))))) (rw_or1 (rt_cmp (op_neDD ck.room) (re_callB call_lenF X.b_len (ro_cons (re_var 1) ro_nil)) (re_callB call_lenF X.b_len (ro_cons (re_var 2) ro_nil))))))
 (rss_one (rs_raise1 (k := 1) 3 (rz_InvalidFirsts X) (ck.mono (by decide)) (ra_cons re_non ra_nil)))
 rss_nil)
 (rss_one (rs_for ck.own ck.calm (ri_enum (ra_cons (re_var 2) ra_nil) X.b_enumerate) (rg_tup (rgs_cons (rg_name 3 ck.nd) (rgs_cons (rg_name 4 ck.nd) rgs_nil)) ck.calm)
 (rss_one (rs_if (rt_not (rt_val (re_call (ok_is_integer X) (ck.mono (by decide)) (ra_cons (re_ix (re_var 1) (re_var 3)) (ra_cons re_int (ra_cons (re_bin op_subD (re_var 4) re_int) ra_nil))))))
 (rss_one (rs_raise1 (k := 1) 3 (rz_InvalidFirsts X) (ck.mono (by decide)) (ra_cons (re_var 3) ra_nil)))
 rss_nil))))))
theorem ok_need_firsts (X : Txt K mg cm) : DefP P w K mg base cm 5 "need_firsts" ["tower", "value"] F_need_firsts := by
  obtain ⟨f, fd, h1, h2, h3, Fu⟩ := X.f_need_firsts
  exact ⟨f, fd, h1, h2, h3, (def_pure Fu sc_need_firsts fun cdv A outer s H E ck => b_need_firsts X ck)⟩
theorem b_pairs_of (X : Txt K mg cm) {f : Addr} {cdv : Value} {A : Around} {outer : List Env} {s : Shared} {H : Hp} {E : XK} (ck : Cok (dtx P w K mg base cm ["many", "one", "other"] "pairs_of" (defScope s_pairs_of) f cdv A outer s H E none) 1) : RSs (dtx P w K mg base cm ["many", "one", "other"] "pairs_of" (defScope s_pairs_of) f cdv A outer s H E none) (defBody s_pairs_of) c_pairs_of :=
 (rss_one (rs_ret (re_lc2 [("one", 1), ("other", 2)] [2] ck (ri_range1 (ra_cons (re_var 0) ra_nil) X.b_range) (fun s H C cl fp => (rgw_name 1 (ck.blk _ _ _ _ _).nd)) (fun s H C cl fp => rts_nil) (fun s H C cl fp => (ri_range2 (ra_cons (re_bin op_addD (re_var 1) re_int) (ra_cons (re_var 0) ra_nil)) X.b_range)) (fun s H C cl fp => (rgw_name 2 (ck.blk _ _ _ _ _).nd)) (fun s H C cl fp => rts_nil) (fun s H C cl fp => (re_tup (ra_cons (re_var 1) (ra_cons (re_var 2) ra_nil)))) (ok := by show blkC ["many", "one", "other"] (defScope s_pairs_of) _ [("one", 1), ("other", 2)] = true; decide +kernel))))
theorem ok_pairs_of (X : Txt K mg cm) : DefP P w K mg base cm 2 "pairs_of" ["many"] F_pairs_of := by
  obtain ⟨f, fd, h1, h2, h3, Fu⟩ := X.f_pairs_of
  exact ⟨f, fd, h1, h2, h3, (def_pure Fu sc_pairs_of fun cdv A outer s H E ck => b_pairs_of X ck)⟩
theorem b_place_of (X : Txt K mg cm) {f : Addr} {cdv : Value} {A : Around} {outer : List Env} {s : Shared} {H : Hp} {E : XK} (ck : Cok (dtx P w K mg base cm ["difference", "divisor"] "place_of" (defScope s_place_of) f cdv A outer s H E none) 1) : RSs (dtx P w K mg base cm ["difference", "divisor"] "place_of" (defScope s_place_of) f cdv A outer s H E none) (defBody s_place_of) c_place_of :=
 (rss_one (rs_ret (re_bin op_subD (re_bin op_divD (re_var 0) (re_var 1)) (re_bin op_divD (re_bin op_subD re_int (re_var 0)) (re_var 1)))))
theorem ok_place_of (X : Txt K mg cm) : DefP P w K mg base cm 2 "place_of" ["difference", "divisor"] F_place_of := by
  obtain ⟨f, fd, h1, h2, h3, Fu⟩ := X.f_place_of
  exact ⟨f, fd, h1, h2, h3, (def_pure Fu sc_place_of fun cdv A outer s H E ck => b_place_of X ck)⟩
theorem b_divisor_of (X : Txt K mg cm) {f : Addr} {cdv : Value} {A : Around} {outer : List Env} {s : Shared} {H : Hp} {E : XK} (ck : Cok (dtx P w K mg base cm ["one", "other"] "divisor_of" (defScope s_divisor_of) f cdv A outer s H E none) 1) : RSs (dtx P w K mg base cm ["one", "other"] "divisor_of" (defScope s_divisor_of) f cdv A outer s H E none) (defBody s_divisor_of) c_divisor_of :=
 (rss_cons (rs_while ck.own (rt_cmp op_gtD (re_var 1) re_int)
 (rss_one (rs_par2 0 1 (rr_cons (re_var 1) (rr_cons (re_bin op_modD (re_var 0) (re_var 1)) rr_nil)) ck.calm ck.nd)))
 (rss_one (rs_ret (re_var 0))))
theorem ok_divisor_of (X : Txt K mg cm) : DefP P w K mg base cm 2 "divisor_of" ["one", "other"] F_divisor_of := by
  obtain ⟨f, fd, h1, h2, h3, Fu⟩ := X.f_divisor_of
  exact ⟨f, fd, h1, h2, h3, (def_pure Fu sc_divisor_of fun cdv A outer s H E ck => b_divisor_of X ck)⟩
theorem b_places_of (X : Txt K mg cm) {f : Addr} {cdv : Value} {A : Around} {outer : List Env} {s : Shared} {H : Hp} {E : XK} (ck : Cok (dtx P w K mg base cm ["periods", "firsts", "found", "one", "other"] "places_of" (defScope s_places_of) f cdv A outer s H E none) 2) : RSs (dtx P w K mg base cm ["periods", "firsts", "found", "one", "other"] "places_of" (defScope s_places_of) f cdv A outer s H E none) (defBody s_places_of) c_places_of :=
 (rss_cons (rs_set 2 (re_lst ra_nil) ck.nd)
 (rss_cons (rs_for ck.own ck.calm (ri_seq (re_call (ok_pairs_of X) (ck.mono (by decide)) (ra_cons (re_callB call_lenF X.b_len (ro_cons (re_var 0) ro_nil)) ra_nil))) (rg_tup (rgs_cons (rg_name 3 ck.nd) (rgs_cons (rg_name 4 ck.nd) rgs_nil)) ck.calm)
 (rss_one (rs_expr (re_append (re_var 2) (ra_cons (re_call (ok_place_of X) (ck.mono (by decide)) (ra_cons (re_bin op_subD (re_ix (re_var 1) (re_var 3)) (re_ix (re_var 1) (re_var 4))) (ra_cons (re_call (ok_divisor_of X) (ck.mono (by decide)) (ra_cons (re_ix (re_var 0) (re_var 3)) (ra_cons (re_ix (re_var 0) (re_var 4)) ra_nil))) ra_nil))) ra_nil)))))
 (rss_one (rs_ret (re_callTy call_tupleF X.b_tuple (ro_cons (re_var 2) ro_nil))))))
theorem ok_places_of (X : Txt K mg cm) : DefP P w K mg base cm 3 "places_of" ["periods", "firsts"] F_places_of := by
  obtain ⟨f, fd, h1, h2, h3, Fu⟩ := X.f_places_of
  exact ⟨f, fd, h1, h2, h3, (def_pure Fu sc_places_of fun cdv A outer s H E ck => b_places_of X ck)⟩
theorem b_Tower_names (X : Txt K mg cm) {f : Addr} {cdv : Value} {A : Around} {outer : List Env} {s : Shared} {H : Hp} {E : XK} (ck : Cok (dtx P w K mg base cm ["self"] "Tower.names" (defScope s_Tower_names) f cdv A outer s H E none) 1) : RSs (dtx P w K mg base cm ["self"] "Tower.names" (defScope s_Tower_names) f cdv A outer s H E none) (defBody s_Tower_names) c_Tower_names :=
 (rss_one (rs_ret (re_fld 5 X.cl_Tower X.na_Tower_own_names (re_var 0))))
theorem pr_Tower_names (X : Txt K mg cm) : DefPr P w K mg base cm 2 5 "names" F_Tower_names := by
  obtain ⟨p, f, fd, h1, h2, Fu⟩ := X.p_Tower_names
  exact ⟨p, f, fd, X.cl_Tower, h1, h2, (def_pure Fu sc_Tower_names fun cdv A outer s H E ck => b_Tower_names X ck)⟩
theorem b_Tower_full_round (X : Txt K mg cm) {f : Addr} {cdv : Value} {A : Around} {outer : List Env} {s : Shared} {H : Hp} {E : XK} (ck : Cok (dtx P w K mg base cm ["self"] "Tower.full_round" (defScope s_Tower_full_round) f cdv A outer s H E none) 1) : RSs (dtx P w K mg base cm ["self"] "Tower.full_round" (defScope s_Tower_full_round) f cdv A outer s H E none) (defBody s_Tower_full_round) c_Tower_full_round :=
 (rss_one (rs_ret (re_fld 5 X.cl_Tower X.na_Tower_own_round (re_var 0))))
theorem pr_Tower_full_round (X : Txt K mg cm) : DefPr P w K mg base cm 2 5 "full_round" F_Tower_full_round := by
  obtain ⟨p, f, fd, h1, h2, Fu⟩ := X.p_Tower_full_round
  exact ⟨p, f, fd, X.cl_Tower, h1, h2, (def_pure Fu sc_Tower_full_round fun cdv A outer s H E ck => b_Tower_full_round X ck)⟩
theorem b_common_multiple (X : Txt K mg cm) {f : Addr} {cdv : Value} {A : Around} {outer : List Env} {s : Shared} {H : Hp} {E : XK} (ck : Cok (dtx P w K mg base cm ["numbers", "found", "number", "one", "other"] "common_multiple" (defScope s_common_multiple) f cdv A outer s H E none) 1) : RSs (dtx P w K mg base cm ["numbers", "found", "number", "one", "other"] "common_multiple" (defScope s_common_multiple) f cdv A outer s H E none) (defBody s_common_multiple) c_common_multiple :=
 (rss_cons (rs_set 1 re_int ck.nd)
 (rss_cons (rs_for ck.own ck.calm (ri_seq (re_var 0)) (rg_name 2 ck.nd)
 (rss_cons (rs_par2 3 4 (rr_cons (re_var 1) (rr_cons (re_var 2) rr_nil)) ck.calm ck.nd)
 (rss_cons (rs_while ck.own (rt_cmp op_gtD (re_var 4) re_int)
 (rss_one (rs_par2 3 4 (rr_cons (re_var 4) (rr_cons (re_bin op_modD (re_var 3) (re_var 4)) rr_nil)) ck.calm ck.nd)))
 (rss_one (rs_set 1 (re_bin op_mulD (re_bin op_divD (re_var 1) (re_var 3)) (re_var 2)) ck.nd)))))
 (rss_one (rs_ret (re_var 1)))))
theorem ok_common_multiple (X : Txt K mg cm) : DefP P w K mg base cm 2 "common_multiple" ["numbers"] F_common_multiple := by
  obtain ⟨f, fd, h1, h2, h3, Fu⟩ := X.f_common_multiple
  exact ⟨f, fd, h1, h2, h3, (def_pure Fu sc_common_multiple fun cdv A outer s H E ck => b_common_multiple X ck)⟩
theorem b_meeting_counts (X : Txt K mg cm) {f : Addr} {cdv : Value} {A : Around} {outer : List Env} {s : Shared} {H : Hp} {E : XK} (ck : Cok (dtx P w K mg base cm ["tower", "places", "periods", "even", "found", "bits", "members", "pair", "place", "bell", "one", "other"] "meeting_counts" (defScope s_meeting_counts) f cdv A outer s H E none) 3) : RSs (dtx P w K mg base cm ["tower", "places", "periods", "even", "found", "bits", "members", "pair", "place", "bell", "one", "other"] "meeting_counts" (defScope s_meeting_counts) f cdv A outer s H E none) (defBody s_meeting_counts) c_meeting_counts :=
 (rss_cons (rs_set 2 (re_prop 5 (pr_Tower_periods X) (ck.mono (by decide)) (re_var 0)) ck.nd)
 (rss_cons (rs_set 3 (re_dc [("pair", 7), ("place", 8)] ck (ri_zip2 (ra_cons (re_call (ok_pairs_of X) (ck.mono (by decide)) (ra_cons (re_callB call_lenF X.b_len (ro_cons (re_var 2) ro_nil)) ra_nil)) (ra_cons (re_var 1) ra_nil)) X.b_zip) (fun s H C cl fp => (rgw_tup (rgsw_cons (rgw_name 7 (ck.blk _ _ _ _ _).nd) (rgsw_cons (rgw_name 8 (ck.blk _ _ _ _ _).nd) rgsw_nil)) (ck.blk _ _ _ _ _).calm)) (fun s H C cl fp => rts_nil) (fun s H C cl fp => (re_var 7)) (fun s H C cl fp => (re_cmp (op_eqDD (ck.blk _ _ _ _ _).room) (re_bin op_modD (re_var 8) re_int) re_int)) (ok := by show blkC ["tower", "places", "periods", "even", "found", "bits", "members", "pair", "place", "bell", "one", "other"] (defScope s_meeting_counts) _ [("pair", 7), ("place", 8)] = true; decide +kernel)) ck.nd)
 (rss_cons (rs_set 4 (re_lst (ra_cons re_int ra_nil)) ck.nd)
 (rss_cons (rs_for ck.own ck.calm (ri_range2 (ra_cons re_int (ra_cons (re_bin op_shlD re_int (re_callB call_lenF X.b_len (ro_cons (re_var 2) ro_nil))) ra_nil)) X.b_range) (rg_name 5 ck.nd)
 (rss_cons (rs_set 6 (re_lc [("bell", 9)] ck (ri_range1 (ra_cons (re_callB call_lenF X.b_len (ro_cons (re_var 2) ro_nil)) ra_nil) X.b_range) (fun s H C cl fp => (rgw_name 9 (ck.blk _ _ _ _ _).nd)) (fun s H C cl fp => (rts_one (rt_cmp (op_eqDD (ck.blk _ _ _ _ _).room) (re_bin op_andD (re_bin op_shrD (re_var 5) (re_var 9)) re_int) re_int))) (fun s H C cl fp => (re_var 9)) (ok := by show blkC ["tower", "places", "periods", "even", "found", "bits", "members", "pair", "place", "bell", "one", "other"] (defScope s_meeting_counts) _ [("bell", 9)] = true; decide +kernel)) ck.nd)
 (rss_one (rs_if (rt_val (re_callB (call_allF ck.calm) X.b_all (ro_cons (re_lc2 [("one", 10), ("other", 11)] [11] ck (ri_seq (re_var 6)) (fun s H C cl fp => (rgw_name 10 (ck.blk _ _ _ _ _).nd)) (fun s H C cl fp => rts_nil) (fun s H C cl fp => (ri_seq (re_var 6))) (fun s H C cl fp => (rgw_name 11 (ck.blk _ _ _ _ _).nd)) (fun s H C cl fp => (rts_one (rt_cmp op_ltD (re_var 10) (re_var 11)))) (fun s H C cl fp => (re_dget (ck.blk _ _ _ _ _) (re_var 3) (re_tup (ra_cons (re_var 10) (ra_cons (re_var 11) ra_nil))))) (ok := by show blkC ["tower", "places", "periods", "even", "found", "bits", "members", "pair", "place", "bell", "one", "other"] (defScope s_meeting_counts) _ [("one", 10), ("other", 11)] = true; decide +kernel)) ro_nil)))
 (rss_one (rs_expr (re_append (re_var 4) (ra_cons (re_bin op_divD (re_prop 5 (pr_Tower_full_round X) (ck.mono (by decide)) (re_var 0)) (re_call (ok_common_multiple X) (ck.mono (by decide)) (ra_cons (re_lc [("bell", 9)] ck (ri_seq (re_var 6)) (fun s H C cl fp => (rgw_name 9 (ck.blk _ _ _ _ _).nd)) (fun s H C cl fp => rts_nil) (fun s H C cl fp => (re_ix (re_var 2) (re_var 9))) (ok := by show blkC ["tower", "places", "periods", "even", "found", "bits", "members", "pair", "place", "bell", "one", "other"] (defScope s_meeting_counts) _ [("bell", 9)] = true; decide +kernel)) ra_nil))) ra_nil))))
 (rss_one (rs_expr (re_append (re_var 4) (ra_cons re_int ra_nil))))))))
 (rss_one (rs_ret (re_var 4)))))))
theorem ok_meeting_counts (X : Txt K mg cm) : DefP P w K mg base cm 4 "meeting_counts" ["tower", "places"] F_meeting_counts := by
  obtain ⟨f, fd, h1, h2, h3, Fu⟩ := X.f_meeting_counts
  exact ⟨f, fd, h1, h2, h3, (def_pure Fu sc_meeting_counts fun cdv A outer s H E ck => b_meeting_counts X ck)⟩
theorem b_bit_count_of (X : Txt K mg cm) {f : Addr} {cdv : Value} {A : Around} {outer : List Env} {s : Shared} {H : Hp} {E : XK} (ck : Cok (dtx P w K mg base cm ["bits", "found"] "bit_count_of" (defScope s_bit_count_of) f cdv A outer s H E none) 1) : RSs (dtx P w K mg base cm ["bits", "found"] "bit_count_of" (defScope s_bit_count_of) f cdv A outer s H E none) (defBody s_bit_count_of) c_bit_count_of :=
 (rss_cons (rs_set 1 re_int ck.nd)
 (rss_cons (rs_while ck.own (rt_cmp op_gtD (re_var 0) re_int)
 (rss_cons (rs_set 1 (re_bin op_addD (re_var 1) (re_bin op_andD (re_var 0) re_int)) ck.nd)
 (rss_one (rs_set 0 (re_bin op_shrD (re_var 0) re_int) ck.nd))))
 (rss_one (rs_ret (re_var 1)))))
theorem ok_bit_count_of (X : Txt K mg cm) : DefP P w K mg base cm 2 "bit_count_of" ["bits"] F_bit_count_of := by
  obtain ⟨f, fd, h1, h2, h3, Fu⟩ := X.f_bit_count_of
  exact ⟨f, fd, h1, h2, h3, (def_pure Fu sc_bit_count_of fun cdv A outer s H E ck => b_bit_count_of X ck)⟩
theorem b_counts_of (X : Txt K mg cm) {f : Addr} {cdv : Value} {A : Around} {outer : List Env} {s : Shared} {H : Hp} {E : XK} (ck : Cok (dtx P w K mg base cm ["tower", "places", "together", "names", "found", "bits", "exact", "more", "chime", "bell", "name"] "counts_of" (defScope s_counts_of) f cdv A outer s H E none) 4) : RSs (dtx P w K mg base cm ["tower", "places", "together", "names", "found", "bits", "exact", "more", "chime", "bell", "name"] "counts_of" (defScope s_counts_of) f cdv A outer s H E none) (defBody s_counts_of) c_counts_of :=
 (rss_cons (rs_par2 2 3 (rr_cons (re_call (ok_meeting_counts X) (ck.mono (by decide)) (ra_cons (re_var 0) (ra_cons (re_var 1) ra_nil))) (rr_cons (re_prop 5 (pr_Tower_names X) (ck.mono (by decide)) (re_var 0)) rr_nil)) ck.calm ck.nd)
 (rss_cons (rs_set 4 re_dic0 ck.nd)
 (rss_cons (rs_for ck.own ck.calm (ri_range2 (ra_cons re_int (ra_cons (re_callB call_lenF X.b_len (ro_cons (re_var 2) ro_nil)) ra_nil)) X.b_range) (rg_name 5 ck.nd)
 (rss_cons (rs_set 6 re_int ck.nd)
 (rss_cons (rs_for ck.own ck.calm (ri_range2 (ra_cons re_int (ra_cons (re_callB call_lenF X.b_len (ro_cons (re_var 2) ro_nil)) ra_nil)) X.b_range) (rg_name 7 ck.nd)
 (rss_one (rs_if (rt_cmp (op_eqDD ck.room) (re_bin op_andD (re_var 7) (re_var 5)) (re_var 5))
 (rss_one (rs_set 6 (re_bin op_addD (re_var 6) (re_ifE (rt_cmp (op_eqDD ck.room) (re_bin op_modD (re_call (ok_bit_count_of X) (ck.mono (by decide)) (ra_cons (re_bin op_xorD (re_var 7) (re_var 5)) ra_nil)) re_int) re_int) (re_ix (re_var 2) (re_var 7)) (re_bin op_subD re_int (re_ix (re_var 2) (re_var 7))))) ck.nd))
 rss_nil)))
 (rss_one (rs_if (rt_cmp op_gtD (re_var 6) re_int)
 (rss_cons (rs_set 8 (re_join re_str (re_lc [("bell", 9), ("name", 10)] ck (ri_enum (ra_cons (re_var 3) ra_nil) X.b_enumerate) (fun s H C cl fp => (rgw_tup (rgsw_cons (rgw_name 9 (ck.blk _ _ _ _ _).nd) (rgsw_cons (rgw_name 10 (ck.blk _ _ _ _ _).nd) rgsw_nil)) (ck.blk _ _ _ _ _).calm)) (fun s H C cl fp => (rts_one (rt_cmp (op_eqDD (ck.blk _ _ _ _ _).room) (re_bin op_andD (re_bin op_shrD (re_var 5) (re_var 9)) re_int) re_int))) (fun s H C cl fp => (re_var 10)) (ok := by show blkC ["tower", "places", "together", "names", "found", "bits", "exact", "more", "chime", "bell", "name"] (defScope s_counts_of) _ [("bell", 9), ("name", 10)] = true; decide +kernel))) ck.nd)
 (rss_one (rs_asg (re_var 6) (rg_dx ck (re_var 4) (re_var 8)))))
 rss_nil)))))
 (rss_one (rs_ret (re_dc [("chime", 8)] ck (ri_seq (re_callB (call_sortedD2 ck.calm) X.b_sorted (ro_cons (re_var 4) ro_nil))) (fun s H C cl fp => (rgw_name 8 (ck.blk _ _ _ _ _).nd)) (fun s H C cl fp => rts_nil) (fun s H C cl fp => (re_var 8)) (fun s H C cl fp => (re_dget (ck.blk _ _ _ _ _) (re_var 4) (re_var 8))) (ok := by show blkC ["tower", "places", "together", "names", "found", "bits", "exact", "more", "chime", "bell", "name"] (defScope s_counts_of) _ [("chime", 8)] = true; decide +kernel)))))))
theorem ok_counts_of (X : Txt K mg cm) : DefP P w K mg base cm 5 "counts_of" ["tower", "places"] F_counts_of := by
  obtain ⟨f, fd, h1, h2, h3, Fu⟩ := X.f_counts_of
  exact ⟨f, fd, h1, h2, h3, (def_pure Fu sc_counts_of fun cdv A outer s H E ck => b_counts_of X ck)⟩
theorem b_Song___init (X : Txt K mg cm) {a : Addr} {f : Addr} {cdv : Value} {A : Around} {outer : List Env} {s : Shared} {H : Hp} {E : XK} (ck : Cok (dtx P w K mg base cm ["self", "tower", "firsts"] "Song.__init__" (defScope s_Song___init) f cdv A outer s H E (some a)) 5) : RSs (dtx P w K mg base cm ["self", "tower", "firsts"] "Song.__init__" (defScope s_Song___init) f cdv A outer s H E (some a)) (defBody s_Song___init) c_Song___init :=
 (rss_cons (rs_expr (re_call (ok_need_firsts X) (ck.mono (by decide)) (ra_cons (re_var 1) (ra_cons (re_var 2) ra_nil))))
 (rss_cons (rs_putF 6 X.cl_Song X.na_Song_own_tower (re_var 0) (re_var 1))
 (rss_cons (rs_putF 6 X.cl_Song X.na_Song_own_firsts (re_var 0) (re_var 2))
 (rss_cons (rs_putF 6 X.cl_Song X.na_Song_own_pattern (re_var 0) (re_call (ok_places_of X) (ck.mono (by decide)) (ra_cons (re_prop 5 (pr_Tower_periods X) (ck.mono (by decide)) (re_var 1)) (ra_cons (re_var 2) ra_nil))))
 (rss_one (rs_putF 6 X.cl_Song X.na_Song_own_chimes (re_var 0) (re_callTy call_tupleF X.b_tuple (ro_cons (re_callTy (call_listD2 ck.calm) X.b_list (ro_cons (re_call (ok_counts_of X) (ck.mono (by decide)) (ra_cons (re_var 1) (ra_cons (re_fld 6 X.cl_Song X.na_Song_own_pattern (re_var 0)) ra_nil))) ro_nil)) ro_nil))))))))
theorem mk_Song (X : Txt K mg cm) : DefMk P w K mg base cm 6 "Song" 6 ["self", "tower", "firsts"] F_Song___init := by
  obtain ⟨f, fd, h1, h2, Fu⟩ := X.i_Song
  exact ⟨f, fd, X.mg_Song, h1, h2, (def_lent Fu sc_Song___init (by decide) fun a cdv A outer s H E ck => b_Song___init X ck)⟩
theorem b_is_name (X : Txt K mg cm) {f : Addr} {cdv : Value} {A : Around} {outer : List Env} {s : Shared} {H : Hp} {E : XK} (ck : Cok (dtx P w K mg base cm ["value"] "is_name" (defScope s_is_name) f cdv A outer s H E none) 1) : RSs (dtx P w K mg base cm ["value"] "is_name" (defScope s_is_name) f cdv A outer s H E none) (defBody s_is_name) c_is_name :=
 (rss_one (rs_ret (re_and (re_callB (call_isiO (isi_X X)) X.b_isinstance (ro_cons (re_var 0) (ro_cons (re_ty X.b_str) ro_nil))) (re_and (re_cmp (op_eqDD ck.room) (re_callB call_lenF X.b_len (ro_cons (re_var 0) ro_nil)) re_int) (re_one (re_cmp (op_inDD ck.room) (re_var 0) (re_glob (v := .str "abcdefghijklmnopqrstuvwxyz") X.g_LETTERS.choose_spec ⟨_, rfl⟩ (fun _ => .str _))))))))
theorem ok_is_name (X : Txt K mg cm) : DefP P w K mg base cm 2 "is_name" ["value"] F_is_name := by
  obtain ⟨f, fd, h1, h2, h3, Fu⟩ := X.f_is_name
  exact ⟨f, fd, h1, h2, h3, (def_pure Fu sc_is_name fun cdv A outer s H E ck => b_is_name X ck)⟩
theorem b_is_bell (X : Txt K mg cm) {f : Addr} {cdv : Value} {A : Around} {outer : List Env} {s : Shared} {H : Hp} {E : XK} (ck : Cok (dtx P w K mg base cm ["value"] "is_bell" (defScope s_is_bell) f cdv A outer s H E none) 2) : RSs (dtx P w K mg base cm ["value"] "is_bell" (defScope s_is_bell) f cdv A outer s H E none) (defBody s_is_bell) c_is_bell :=
 (rss_cons (rs_if (RW.rt (rw_or (rt_not (rt_val (re_callB (call_isiO (isi_X X)) X.b_isinstance (ro_cons (re_var 0) (ro_cons (re_ty X.b_tuple) ro_nil))))) (rw_or (rt_cmp (op_neDD ck.room) (re_callB call_lenF X.b_len (ro_cons (re_var 0) ro_nil)) re_int) (rw_or1 (rt_not (rt_val (re_call (ok_is_name X) (ck.mono (by decide)) (ra_cons (re_ix (re_var 0) re_int) ra_nil))))))))
 (rss_one (rs_ret re_bl))
 rss_nil)
 (rss_one (rs_ret (re_call (ok_is_integer X) (ck.mono (by decide)) (ra_cons (re_ix (re_var 0) re_int) (ra_cons re_int (ra_cons (re_clsCon 5 (v := .int 30) X.mg_Tower X.cv_Tower_MAX_PERIOD.choose_spec.choose_spec.1 X.cv_Tower_MAX_PERIOD.choose_spec.choose_spec.2 (fun _ => .int _)) ra_nil)))))))
theorem ok_is_bell (X : Txt K mg cm) : DefP P w K mg base cm 3 "is_bell" ["value"] F_is_bell := by
  obtain ⟨f, fd, h1, h2, h3, Fu⟩ := X.f_is_bell
  exact ⟨f, fd, h1, h2, h3, (def_pure Fu sc_is_bell fun cdv A outer s H E ck => b_is_bell X ck)⟩
theorem b_tower_faults (X : Txt K mg cm) {f : Addr} {cdv : Value} {A : Around} {outer : List Env} {s : Shared} {H : Hp} {E : XK} (ck : Cok (dtx P w K mg base cm ["value", "before", "index", "bell"] "tower_faults" (defScope s_tower_faults) f cdv A outer s H E none) 3) : RSs (dtx P w K mg base cm ["value", "before", "index", "bell"] "tower_faults" (defScope s_tower_faults) f cdv A outer s H E none) (defBody s_tower_faults) c_tower_faults :=
 (rss_cons (rs_if (RW.rt (rw_or (rt_not (rt_val (re_callB (call_isiO (isi_X X)) X.b_isinstance (ro_cons (re_var 0) (ro_cons (re_ty X.b_tuple) ro_nil))))) (rw_or1 (rt_not (rt_chain op_leD op_leD re_int (re_callB call_lenF X.b_len (ro_cons (re_var 0) ro_nil)) (re_clsCon 5 (v := .int 5) X.mg_Tower X.cv_Tower_MAX_BELLS.choose_spec.choose_spec.1 X.cv_Tower_MAX_BELLS.choose_spec.choose_spec.2 (fun _ => .int _)))))))
 (rss_one (rs_ret (re_lst (ra_cons re_non ra_nil))))
 rss_nil)
 (rss_cons (rs_set 1 re_str ck.nd)
 (rss_cons (rs_for ck.own ck.calm (ri_enum (ra_cons (re_var 0) ra_nil) X.b_enumerate) (rg_tup (rgs_cons (rg_name 2 ck.nd) (rgs_cons (rg_name 3 ck.nd) rgs_nil)) ck.calm)
 (rss_cons (rs_if (RW.rt (rw_or (rt_not (rt_val (re_call (ok_is_bell X) (ck.mono (by decide)) (ra_cons (re_var 3) ra_nil)))) (rw_or1 (rt_cmp op_leD (re_ix (re_var 3) re_int) (re_var 1)))))
 (rss_one (rs_ret (re_lst (ra_cons (re_var 2) ra_nil))))
 rss_nil)
 (rss_one (rs_set 1 (re_ix (re_var 3) re_int) ck.nd))))
 (rss_one (rs_ret (re_lst ra_nil))))))
theorem ok_tower_faults (X : Txt K mg cm) : DefP P w K mg base cm 4 "tower_faults" ["value"] F_tower_faults := by
  obtain ⟨f, fd, h1, h2, h3, Fu⟩ := X.f_tower_faults
  exact ⟨f, fd, h1, h2, h3, (def_pure Fu sc_tower_faults fun cdv A outer s H E ck => b_tower_faults X ck)⟩
theorem b_Tower___init (X : Txt K mg cm) {a : Addr} {f : Addr} {cdv : Value} {A : Around} {outer : List Env} {s : Shared} {H : Hp} {E : XK} (ck : Cok (dtx P w K mg base cm ["self", "bells", "index", "name", "period"] "Tower.__init__" (defScope s_Tower___init) f cdv A outer s H E (some a)) 4) : RSs (dtx P w K mg base cm ["self", "bells", "index", "name", "period"] "Tower.__init__" (defScope s_Tower___init) f cdv A outer s H E (some a)) (defBody s_Tower___init) c_Tower___init :=
 (rss_cons (rs_for ck.own ck.calm (ri_seq (re_call (ok_tower_faults X) (ck.mono (by decide)) (ra_cons (re_var 1) ra_nil))) (rg_name 2 ck.nd)
 (rss_one (rs_raise1 (k := 1) 1 (rz_InvalidTower X) (ck.mono (by decide)) (ra_cons (re_var 2) ra_nil))))
 (rss_cons (rs_putF 5 X.cl_Tower X.na_Tower_own_bells (re_var 0) (re_var 1))
 (rss_cons (rs_putF 5 X.cl_Tower X.na_Tower_own_names (re_var 0) (re_join re_str (re_lc [("name", 3), ("period", 4)] ck (ri_seq (re_var 1)) (fun s H C cl fp => (rgw_tup (rgsw_cons (rgw_name 3 (ck.blk _ _ _ _ _).nd) (rgsw_cons (rgw_name 4 (ck.blk _ _ _ _ _).nd) rgsw_nil)) (ck.blk _ _ _ _ _).calm)) (fun s H C cl fp => rts_nil) (fun s H C cl fp => (re_var 3)) (ok := by show blkC ["self", "bells", "index", "name", "period"] (defScope s_Tower___init) _ [("name", 3), ("period", 4)] = true; decide +kernel))))
 (rss_cons (rs_putF 5 X.cl_Tower X.na_Tower_own_periods (re_var 0) (re_callTy call_tupleF X.b_tuple (ro_cons (re_lc [("name", 3), ("period", 4)] ck (ri_seq (re_var 1)) (fun s H C cl fp => (rgw_tup (rgsw_cons (rgw_name 3 (ck.blk _ _ _ _ _).nd) (rgsw_cons (rgw_name 4 (ck.blk _ _ _ _ _).nd) rgsw_nil)) (ck.blk _ _ _ _ _).calm)) (fun s H C cl fp => rts_nil) (fun s H C cl fp => (re_var 4)) (ok := by show blkC ["self", "bells", "index", "name", "period"] (defScope s_Tower___init) _ [("name", 3), ("period", 4)] = true; decide +kernel)) ro_nil)))
 (rss_one (rs_putF 5 X.cl_Tower X.na_Tower_own_round (re_var 0) (re_call (ok_common_multiple X) (ck.mono (by decide)) (ra_cons (re_fld 5 X.cl_Tower X.na_Tower_own_periods (re_var 0)) ra_nil))))))))
theorem mk_Tower (X : Txt K mg cm) : DefMk P w K mg base cm 5 "Tower" 5 ["self", "bells"] F_Tower___init := by
  obtain ⟨f, fd, h1, h2, Fu⟩ := X.i_Tower
  exact ⟨f, fd, X.mg_Tower, h1, h2, (def_lent Fu sc_Tower___init (by decide) fun a cdv A outer s H E ck => b_Tower___init X ck)⟩
theorem b_law_sets (X : Txt K mg cm) {f : Addr} {cdv : Value} {A : Around} {outer : List Env} {s : Shared} {H : Hp} {E : XK} (ck : Cok (dtx P w K mg base cm ["_law_bells_here", "_law_found", "_law_name", "_law_period", "_law_chime"] "_law_sets" (defScope s_law_sets) f cdv A outer s H E none) 1) : RSs (dtx P w K mg base cm ["_law_bells_here", "_law_found", "_law_name", "_law_period", "_law_chime"] "_law_sets" (defScope s_law_sets) f cdv A outer s H E none) (defBody s_law_sets) c_law_sets :=
 (rss_cons (rs_set 1 (re_lst (ra_cons re_str ra_nil)) ck.nd)
 (rss_cons (rs_for ck.own ck.calm (ri_seq (re_var 0)) (rg_tup (rgs_cons (rg_name 2 ck.nd) (rgs_cons (rg_name 3 ck.nd) rgs_nil)) ck.calm)
 (rss_one (rs_set 1 (re_bin op_addD (re_var 1) (re_lc [("_law_chime", 4)] ck (ri_seq (re_var 1)) (fun s H C cl fp => (rgw_name 4 (ck.blk _ _ _ _ _).nd)) (fun s H C cl fp => rts_nil) (fun s H C cl fp => (re_bin op_addD (re_var 4) (re_var 2))) (ok := by show blkC ["_law_bells_here", "_law_found", "_law_name", "_law_period", "_law_chime"] (defScope s_law_sets) _ [("_law_chime", 4)] = true; decide +kernel))) ck.nd)))
 (rss_one (rs_ret (re_callB (call_sortedF ck) X.b_sorted (ro_cons (re_sli (re_var 1) (roS re_int) roN) ro_nil))))))
theorem ok_law_sets (X : Txt K mg cm) : DefP P w K mg base cm 2 "_law_sets" ["_law_bells_here"] F_law_sets := by
  obtain ⟨f, fd, h1, h2, h3, Fu⟩ := X.f_law_sets
  exact ⟨f, fd, h1, h2, h3, (def_pure Fu sc_law_sets fun cdv A outer s H E ck => b_law_sets X ck)⟩
theorem b_Song_pattern (X : Txt K mg cm) {f : Addr} {cdv : Value} {A : Around} {outer : List Env} {s : Shared} {H : Hp} {E : XK} (ck : Cok (dtx P w K mg base cm ["self"] "Song.pattern" (defScope s_Song_pattern) f cdv A outer s H E none) 1) : RSs (dtx P w K mg base cm ["self"] "Song.pattern" (defScope s_Song_pattern) f cdv A outer s H E none) (defBody s_Song_pattern) c_Song_pattern :=
 (rss_one (rs_ret (re_fld 6 X.cl_Song X.na_Song_own_pattern (re_var 0))))
theorem pr_Song_pattern (X : Txt K mg cm) : DefPr P w K mg base cm 2 6 "pattern" F_Song_pattern := by
  obtain ⟨p, f, fd, h1, h2, Fu⟩ := X.p_Song_pattern
  exact ⟨p, f, fd, X.cl_Song, h1, h2, (def_pure Fu sc_Song_pattern fun cdv A outer s H E ck => b_Song_pattern X ck)⟩
theorem b_Tower___len (X : Txt K mg cm) {f : Addr} {cdv : Value} {A : Around} {outer : List Env} {s : Shared} {H : Hp} {E : XK} (ck : Cok (dtx P w K mg base cm ["self"] "Tower.__len__" (defScope s_Tower___len) f cdv A outer s H E none) 1) : RSs (dtx P w K mg base cm ["self"] "Tower.__len__" (defScope s_Tower___len) f cdv A outer s H E none) (defBody s_Tower___len) c_Tower___len :=
 (rss_one (rs_ret (re_callB call_lenF X.b_len (ro_cons (re_fld 5 X.cl_Tower X.na_Tower_own_bells (re_var 0)) ro_nil))))
theorem le_Tower (X : Txt K mg cm) : DefLen P w K mg base cm 2 5 F_Tower___len := by
  obtain ⟨f, fd, h1, h2, h3, Fu⟩ := X.l_Tower
  exact ⟨f, fd, h1, h2, h3, (def_pure Fu sc_Tower___len fun cdv A outer s H E ck => b_Tower___len X ck)⟩
theorem b_Song_tower (X : Txt K mg cm) {f : Addr} {cdv : Value} {A : Around} {outer : List Env} {s : Shared} {H : Hp} {E : XK} (ck : Cok (dtx P w K mg base cm ["self"] "Song.tower" (defScope s_Song_tower) f cdv A outer s H E none) 1) : RSs (dtx P w K mg base cm ["self"] "Song.tower" (defScope s_Song_tower) f cdv A outer s H E none) (defBody s_Song_tower) c_Song_tower :=
 (rss_one (rs_ret (re_fld 6 X.cl_Song X.na_Song_own_tower (re_var 0))))
theorem pr_Song_tower (X : Txt K mg cm) : DefPr P w K mg base cm 2 6 "tower" F_Song_tower := by
  obtain ⟨p, f, fd, h1, h2, Fu⟩ := X.p_Song_tower
  exact ⟨p, f, fd, X.cl_Song, h1, h2, (def_pure Fu sc_Song_tower fun cdv A outer s H E ck => b_Song_tower X ck)⟩
theorem b_do_meet (X : Txt K mg cm) {f : Addr} {cdv : Value} {A : Around} {outer : List Env} {s : Shared} {H : Hp} {E : XK} (ck : Cok (dtx P w K mg base cm ["song", "members", "even", "pair", "place", "one", "other"] "do_meet" (defScope s_do_meet) f cdv A outer s H E none) 3) : RSs (dtx P w K mg base cm ["song", "members", "even", "pair", "place", "one", "other"] "do_meet" (defScope s_do_meet) f cdv A outer s H E none) (defBody s_do_meet) c_do_meet :=
 (rss_cons (rs_set 2 (re_dc [("pair", 3), ("place", 4)] ck (ri_zip2 (ra_cons (re_call (ok_pairs_of X) (ck.mono (by decide)) (ra_cons (re_lenO 5 (le_Tower X) (ck.mono (by decide)) (ra_cons (re_prop 6 (pr_Song_tower X) (ck.mono (by decide)) (re_var 0)) ra_nil) X.b_len) ra_nil)) (ra_cons (re_prop 6 (pr_Song_pattern X) (ck.mono (by decide)) (re_var 0)) ra_nil)) X.b_zip) (fun s H C cl fp => (rgw_tup (rgsw_cons (rgw_name 3 (ck.blk _ _ _ _ _).nd) (rgsw_cons (rgw_name 4 (ck.blk _ _ _ _ _).nd) rgsw_nil)) (ck.blk _ _ _ _ _).calm)) (fun s H C cl fp => rts_nil) (fun s H C cl fp => (re_var 3)) (fun s H C cl fp => (re_cmp (op_eqDD (ck.blk _ _ _ _ _).room) (re_bin op_modD (re_var 4) re_int) re_int)) (ok := by show blkC ["song", "members", "even", "pair", "place", "one", "other"] (defScope s_do_meet) _ [("pair", 3), ("place", 4)] = true; decide +kernel)) ck.nd)
 (rss_one (rs_ret (re_callB (call_allF ck.calm) X.b_all (ro_cons (re_lc2 [("one", 5), ("other", 6)] [6] ck (ri_seq (re_var 1)) (fun s H C cl fp => (rgw_name 5 (ck.blk _ _ _ _ _).nd)) (fun s H C cl fp => rts_nil) (fun s H C cl fp => (ri_seq (re_var 1))) (fun s H C cl fp => (rgw_name 6 (ck.blk _ _ _ _ _).nd)) (fun s H C cl fp => (rts_one (rt_cmp op_ltD (re_var 5) (re_var 6)))) (fun s H C cl fp => (re_dget (ck.blk _ _ _ _ _) (re_var 2) (re_tup (ra_cons (re_var 5) (ra_cons (re_var 6) ra_nil))))) (ok := by show blkC ["song", "members", "even", "pair", "place", "one", "other"] (defScope s_do_meet) _ [("one", 5), ("other", 6)] = true; decide +kernel)) ro_nil)))))
theorem ok_do_meet (X : Txt K mg cm) : DefP P w K mg base cm 4 "do_meet" ["song", "members"] F_do_meet := by
  obtain ⟨f, fd, h1, h2, h3, Fu⟩ := X.f_do_meet
  exact ⟨f, fd, h1, h2, h3, (def_pure Fu sc_do_meet fun cdv A outer s H E ck => b_do_meet X ck)⟩
theorem b_is_chime (X : Txt K mg cm) {f : Addr} {cdv : Value} {A : Around} {outer : List Env} {s : Shared} {H : Hp} {E : XK} (ck : Cok (dtx P w K mg base cm ["names", "value", "name"] "is_chime" (defScope s_is_chime) f cdv A outer s H E none) 1) : RSs (dtx P w K mg base cm ["names", "value", "name"] "is_chime" (defScope s_is_chime) f cdv A outer s H E none) (defBody s_is_chime) c_is_chime :=
 (rss_cons (rs_if (RW.rt (rw_or (rt_not (rt_val (re_callB (call_isiO (isi_X X)) X.b_isinstance (ro_cons (re_var 1) (ro_cons (re_ty X.b_str) ro_nil))))) (rw_or (rt_cmp (op_eqDD ck.room) (re_var 1) re_str) (rw_or1 (rt_cmp op_gtD (re_callB call_lenF X.b_len (ro_cons (re_var 1) ro_nil)) (re_callB call_lenF X.b_len (ro_cons (re_var 0) ro_nil)))))))
 (rss_one (rs_ret re_bl))
 rss_nil)
 (rss_one (rs_ret (re_cmp (op_eqDD ck.room) (re_join re_str (re_lc [("name", 2)] ck (ri_seq (re_var 0)) (fun s H C cl fp => (rgw_name 2 (ck.blk _ _ _ _ _).nd)) (fun s H C cl fp => (rts_one (rt_cmp (op_inDD (ck.blk _ _ _ _ _).room) (re_var 2) (re_var 1)))) (fun s H C cl fp => (re_var 2)) (ok := by show blkC ["names", "value", "name"] (defScope s_is_chime) _ [("name", 2)] = true; decide +kernel))) (re_var 1)))))
theorem ok_is_chime (X : Txt K mg cm) : DefP P w K mg base cm 2 "is_chime" ["names", "value"] F_is_chime := by
  obtain ⟨f, fd, h1, h2, h3, Fu⟩ := X.f_is_chime
  exact ⟨f, fd, h1, h2, h3, (def_pure Fu sc_is_chime fun cdv A outer s H E ck => b_is_chime X ck)⟩
theorem b_members_of (X : Txt K mg cm) {f : Addr} {cdv : Value} {A : Around} {outer : List Env} {s : Shared} {H : Hp} {E : XK} (ck : Cok (dtx P w K mg base cm ["song", "names", "bell", "name"] "members_of" (defScope s_members_of) f cdv A outer s H E none) 4) : RSs (dtx P w K mg base cm ["song", "names", "bell", "name"] "members_of" (defScope s_members_of) f cdv A outer s H E none) (defBody s_members_of) c_members_of :=
 (rss_cons (rs_if (rt_not (rt_val (re_call (ok_is_chime X) (ck.mono (by decide)) (ra_cons (re_prop 5 (pr_Tower_names X) (ck.mono (by decide)) (re_prop 6 (pr_Song_tower X) (ck.mono (by decide)) (re_var 0))) (ra_cons (re_var 1) ra_nil)))))
 (rss_one (rs_raise1 (k := 1) 2 (rz_InvalidName X) (ck.mono (by decide)) (ra_cons (re_var 1) ra_nil)))
 rss_nil)
 (rss_one (rs_ret (re_lc [("bell", 2), ("name", 3)] ck (ri_enum (ra_cons (re_prop 5 (pr_Tower_names X) (ck.mono (by decide)) (re_prop 6 (pr_Song_tower X) (ck.mono (by decide)) (re_var 0))) ra_nil) X.b_enumerate) (fun s H C cl fp => (rgw_tup (rgsw_cons (rgw_name 2 (ck.blk _ _ _ _ _).nd) (rgsw_cons (rgw_name 3 (ck.blk _ _ _ _ _).nd) rgsw_nil)) (ck.blk _ _ _ _ _).calm)) (fun s H C cl fp => (rts_one (rt_cmp (op_inDD (ck.blk _ _ _ _ _).room) (re_var 3) (re_var 1)))) (fun s H C cl fp => (re_var 2)) (ok := by show blkC ["song", "names", "bell", "name"] (defScope s_members_of) _ [("bell", 2), ("name", 3)] = true; decide +kernel)))))
theorem ok_members_of (X : Txt K mg cm) : DefP P w K mg base cm 5 "members_of" ["song", "names"] F_members_of := by
  obtain ⟨f, fd, h1, h2, h3, Fu⟩ := X.f_members_of
  exact ⟨f, fd, h1, h2, h3, (def_pure Fu sc_members_of fun cdv A outer s H E ck => b_members_of X ck)⟩
theorem b_meets (X : Txt K mg cm) {f : Addr} {cdv : Value} {A : Around} {outer : List Env} {s : Shared} {H : Hp} {E : XK} (ck : Cok (dtx P w K mg base cm ["song", "names"] "meets" (defScope s_meets) f cdv A outer s H E none) 5) : RSs (dtx P w K mg base cm ["song", "names"] "meets" (defScope s_meets) f cdv A outer s H E none) (defBody s_meets) c_meets :=
 (rss_one (rs_ret (re_call (ok_do_meet X) (ck.mono (by decide)) (ra_cons (re_var 0) (ra_cons (re_call (ok_members_of X) (ck.mono (by decide)) (ra_cons (re_var 0) (ra_cons (re_var 1) ra_nil))) ra_nil)))))
theorem ok_meets (X : Txt K mg cm) : DefP P w K mg base cm 6 "meets" ["song", "names"] F_meets := by
  obtain ⟨f, fd, h1, h2, h3, Fu⟩ := X.f_meets
  exact ⟨f, fd, h1, h2, h3, (def_pure Fu sc_meets fun cdv A outer s H E ck => b_meets X ck)⟩
theorem b_law_small_right (X : Txt K mg cm) {f : Addr} {cdv : Value} {A : Around} {outer : List Env} {s : Shared} {H : Hp} {E : XK} (ck : Cok (dtx P w K mg base cm ["_law_bells_here", "_law_row_here", "_law_tune", "_law_tally_here", "_law_some", "_law_due", "_law_chime", "_law_name"] "_law_small_right" (defScope s_law_small_right) f cdv A outer s H E none) 7) : RSs (dtx P w K mg base cm ["_law_bells_here", "_law_row_here", "_law_tune", "_law_tally_here", "_law_some", "_law_due", "_law_chime", "_law_name"] "_law_small_right" (defScope s_law_small_right) f cdv A outer s H E none) (defBody s_law_small_right) c_law_small_right :=
 (rss_cons (rs_par2 2 3 (rr_cons (re_make 6 (mk_Song X) (ck.mono (by decide)) (ra_cons (re_make 5 (mk_Tower X) (ck.mono (by decide)) (ra_cons (re_var 0) ra_nil)) (ra_cons (re_var 1) ra_nil))) (rr_cons (re_call (ok_law_tally X) (ck.mono (by decide)) (ra_cons (re_var 0) (ra_cons (re_var 1) ra_nil))) rr_nil)) ck.calm ck.nd)
 (rss_cons (rs_for ck.own ck.calm (ri_seq (re_call (ok_law_sets X) (ck.mono (by decide)) (ra_cons (re_var 0) ra_nil))) (rg_name 4 ck.nd)
 (rss_cons (rs_set 5 (re_cmp (op_neDD ck.room) (re_lcK 3 [("_law_chime", 6)] ck (fun s H C cl fp => (rgw_name 6 (ck.blk _ _ _ _ _).nd)) (fun s H C cl fp => (rts_one (rt_cmp (op_eqDD (ck.blk _ _ _ _ _).room) (re_lc [("_law_name", 7)] (ck.blk _ _ _ _ _) (ri_seq (re_var 4)) (fun s H C cl fp => (rgw_name 7 ((ck.blk _ _ _ _ _).blk _ _ _ _ _).nd)) (fun s H C cl fp => (rts_one (rt_cmp (op_notInDD ((ck.blk _ _ _ _ _).blk _ _ _ _ _).room) (re_var 7) (re_var 6)))) (fun s H C cl fp => (re_var 7)) (ok := by rfl)) (re_lst ra_nil)))) (fun s H C cl fp => (re_var 6)) (ok := by show blkC ["_law_bells_here", "_law_row_here", "_law_tune", "_law_tally_here", "_law_some", "_law_due", "_law_chime", "_law_name"] (defScope s_law_small_right) _ [("_law_chime", 6)] = true; decide +kernel)) (re_lst ra_nil)) ck.nd)
 (rss_one (rs_if (rt_cmp (op_neDD ck.room) (re_callB (call_reprF ck) X.b_repr (ro_cons (re_call (ok_meets X) (ck.mono (by decide)) (ra_cons (re_var 2) (ra_cons (re_var 4) ra_nil))) ro_nil)) (re_callB (call_reprF ck) X.b_repr (ro_cons (re_var 5) ro_nil)))
 (rss_one (rs_ret re_bl))
 rss_nil))))
 (rss_one (rs_ret re_bl))))
theorem ok_law_small_right (X : Txt K mg cm) : DefP P w K mg base cm 8 "_law_small_right" ["_law_bells_here", "_law_row_here"] F_law_small_right := by
  obtain ⟨f, fd, h1, h2, h3, Fu⟩ := X.f_law_small_right
  exact ⟨f, fd, h1, h2, h3, (def_pure Fu sc_law_small_right fun cdv A outer s H E ck => b_law_small_right X ck)⟩
theorem b_law_row (X : Txt K mg cm) {a : Addr} {f : Addr} {cdv : Value} {A : Around} {outer : List Env} {s : Shared} {H : Hp} {E : XK} (ck : Cok (dtx P w K mg base cm ["_law_source_here", "_law_bells_here", "_law_name", "_law_period"] "_law_row" (defScope s_law_row) f cdv A outer s H E (some a)) 2) : RSs (dtx P w K mg base cm ["_law_source_here", "_law_bells_here", "_law_name", "_law_period"] "_law_row" (defScope s_law_row) f cdv A outer s H E (some a)) (defBody s_law_row) c_law_row :=
 (rss_one (rs_ret (re_callTy call_tupleF X.b_tuple (ro_cons (re_lc [("_law_name", 2), ("_law_period", 3)] ck (ri_seq (re_var 1)) (fun s H C cl fp => (rgw_tup (rgsw_cons (rgw_name 2 (ck.blk _ _ _ _ _).nd) (rgsw_cons (rgw_name 3 (ck.blk _ _ _ _ _).nd) rgsw_nil)) (ck.blk _ _ _ _ _).calm)) (fun s H C cl fp => rts_nil) (fun s H C cl fp => (re_callM (ok_law_next X) ((ck.blk _ _ _ _ _).mono (by decide)) (re_var 0) (ra_cons (re_var 3) ra_nil))) (ok := by show blkC ["_law_source_here", "_law_bells_here", "_law_name", "_law_period"] (defScope s_law_row) _ [("_law_name", 2), ("_law_period", 3)] = true; decide +kernel)) ro_nil))))
theorem ok_law_row (X : Txt K mg cm) : DefM P w K mg base cm 3 "_law_row" ["_law_source_here", "_law_bells_here"] F_law_row := by
  obtain ⟨f, fd, h1, h2, h3, Fu⟩ := X.f_law_row
  exact ⟨f, fd, h1, h2, h3, (def_lent Fu sc_law_row (by decide) fun a cdv A outer s H E ck => b_law_row X ck)⟩
theorem b_law_great_right (X : Txt K mg cm) {f : Addr} {cdv : Value} {A : Around} {outer : List Env} {s : Shared} {H : Hp} {E : XK} (ck : Cok (dtx P w K mg base cm ["_law_bells_here", "_law_row_here", "_law_tune", "_law_apart", "_law_j", "_law_i", "_law_some", "_law_due", "_law_pair"] "_law_great_right" (defScope s_law_great_right) f cdv A outer s H E none) 7) : RSs (dtx P w K mg base cm ["_law_bells_here", "_law_row_here", "_law_tune", "_law_apart", "_law_j", "_law_i", "_law_some", "_law_due", "_law_pair"] "_law_great_right" (defScope s_law_great_right) f cdv A outer s H E none) (defBody s_law_great_right) c_law_great_right :=
 (rss_cons (rs_par2 2 3 (rr_cons (re_make 6 (mk_Song X) (ck.mono (by decide)) (ra_cons (re_make 5 (mk_Tower X) (ck.mono (by decide)) (ra_cons (re_var 0) ra_nil)) (ra_cons (re_var 1) ra_nil))) (rr_cons (re_lst ra_nil) rr_nil)) ck.calm ck.nd)
 (rss_cons (rs_for ck.own ck.calm (ri_range1 (ra_cons (re_callB call_lenF X.b_len (ro_cons (re_var 0) ro_nil)) ra_nil) X.b_range) (rg_name 4 ck.nd)
 (rss_one (rs_for ck.own ck.calm (ri_range1 (ra_cons (re_var 4) ra_nil) X.b_range) (rg_name 5 ck.nd)
 (rss_one (rs_if (rt_cmp (op_neDD ck.room) (re_bin op_modD (re_bin op_subD (re_ix (re_var 1) (re_var 5)) (re_ix (re_var 1) (re_var 4))) (re_call (ok_law_divisor X) (ck.mono (by decide)) (ra_cons (re_ix (re_ix (re_var 0) (re_var 5)) re_int) (ra_cons (re_ix (re_ix (re_var 0) (re_var 4)) re_int) ra_nil)))) re_int)
 (rss_one (rs_expr (re_append (re_var 3) (ra_cons (re_tup (ra_cons (re_ix (re_ix (re_var 0) (re_var 5)) re_int) (ra_cons (re_ix (re_ix (re_var 0) (re_var 4)) re_int) ra_nil))) ra_nil))))
 rss_nil)))))
 (rss_cons (rs_for ck.own ck.calm (ri_seq (re_call (ok_law_sets X) (ck.mono (by decide)) (ra_cons (re_var 0) ra_nil))) (rg_name 6 ck.nd)
 (rss_cons (rs_set 7 (re_cmp (op_eqDD ck.room) (re_lc [("_law_pair", 8)] ck (ri_seq (re_var 3)) (fun s H C cl fp => (rgw_name 8 (ck.blk _ _ _ _ _).nd)) (fun s H C cl fp => (rts_one (RW.rt (rw_and (rt_cmp (op_inDD (ck.blk _ _ _ _ _).room) (re_ix (re_var 8) re_int) (re_var 6)) (rw_and1 (rt_cmp (op_inDD (ck.blk _ _ _ _ _).room) (re_ix (re_var 8) re_int) (re_var 6))))))) (fun s H C cl fp => (re_var 8)) (ok := by show blkC ["_law_bells_here", "_law_row_here", "_law_tune", "_law_apart", "_law_j", "_law_i", "_law_some", "_law_due", "_law_pair"] (defScope s_law_great_right) _ [("_law_pair", 8)] = true; decide +kernel)) (re_lst ra_nil)) ck.nd)
 (rss_one (rs_if (rt_cmp (op_neDD ck.room) (re_callB (call_reprF ck) X.b_repr (ro_cons (re_call (ok_meets X) (ck.mono (by decide)) (ra_cons (re_var 2) (ra_cons (re_var 6) ra_nil))) ro_nil)) (re_callB (call_reprF ck) X.b_repr (ro_cons (re_var 7) ro_nil)))
 (rss_one (rs_ret re_bl))
 rss_nil))))
 (rss_one (rs_ret re_bl)))))
theorem ok_law_great_right (X : Txt K mg cm) : DefP P w K mg base cm 8 "_law_great_right" ["_law_bells_here", "_law_row_here"] F_law_great_right := by
  obtain ⟨f, fd, h1, h2, h3, Fu⟩ := X.f_law_great_right
  exact ⟨f, fd, h1, h2, h3, (def_pure Fu sc_law_great_right fun cdv A outer s H E ck => b_law_great_right X ck)⟩
theorem b_law (X : Txt K mg cm) {f : Addr} {cdv : Value} {A : Around} {outer : List Env} {s : Shared} {H : Hp} {E : XK} (ck : Cok (dtx P w K mg base cm ["_law_script", "_law_k", "_law_source_here", "_law_small", "_law_great"] "law" (defScope s_law) f cdv A outer s H E none) 8) : RSs (dtx P w K mg base cm ["_law_script", "_law_k", "_law_source_here", "_law_small", "_law_great"] "law" (defScope s_law) f cdv A outer s H E none) (defBody s_law) c_law :=
 (rss_cons (rs_for ck.own ck.calm (ri_range1 (ra_cons (re_callB (call_maxF ck.calm) X.b_max (ro_cons re_int (ro_cons (re_callB (call_minF ck.calm) X.b_min (ro_cons re_int (ro_cons (re_callB call_lenF X.b_len (ro_cons (re_var 0) ro_nil)) ro_nil))) ro_nil))) ra_nil) X.b_range) (rg_name 1 ck.nd)
 (rss_cons (rs_set 2 (re_call (ok_law_source X) (ck.mono (by decide)) (ra_cons (re_var 0) (ra_cons (re_var 1) ra_nil))) ck.nd)
 (rss_cons (rs_par2 3 4 (rr_cons (re_callM (ok_law_bells X) (ck.mono (by decide)) (re_var 2) (ra_cons re_int ra_nil)) (rr_cons (re_callM (ok_law_great_bells X) (ck.mono (by decide)) (re_var 2) ra_nil) rr_nil)) ck.calm ck.nd)
 (rss_one (rs_if (RW.rt (rw_or (rt_not (rt_val (re_call (ok_law_small_right X) (ck.mono (by decide)) (ra_cons (re_var 3) (ra_cons (re_callM (ok_law_row X) (ck.mono (by decide)) (re_var 2) (ra_cons (re_var 3) ra_nil)) ra_nil))))) (rw_or1 (rt_not (rt_val (re_call (ok_law_great_right X) (ck.mono (by decide)) (ra_cons (re_var 4) (ra_cons (re_callM (ok_law_row X) (ck.mono (by decide)) (re_var 2) (ra_cons (re_var 4) ra_nil)) ra_nil))))))))
 (rss_one (rs_ret re_bl))
 rss_nil)))))
 (rss_one (rs_ret re_bl)))

end
end G

namespace G
open PySem PySem.Spec PyProof.Rows L2 DL
theorem all_mk {P : Program} {w : World} {K : PySem.W.Frag} {h : Heap} {mg : Str → Option Value} {fa : Addr} (X : K.In h) (G : h.Ns mainGlobals mg) (hfa : mg "law" = some (.ref fa))
    {f_law_source f_law_next f_law_mixed f_law_great_bells f_law_bells f_law_divisor f_law_round_of f_law_at f_law_tally C5 p_Tower_periods f_Tower_periods C0 C1 C2 C3 C4 C6 N_InvalidFirsts f_InvalidFirsts___init T_InvalidFirsts___init f_is_integer f_need_firsts f_pairs_of f_place_of f_divisor_of f_places_of p_Tower_names f_Tower_names p_Tower_full_round f_Tower_full_round f_common_multiple f_meeting_counts f_bit_count_of f_counts_of f_Song___init f_is_name f_is_bell f_tower_faults N_InvalidTower f_InvalidTower___init T_InvalidTower___init f_Tower___init f_law_sets p_Song_pattern f_Song_pattern f_Tower___len p_Song_tower f_Song_tower f_do_meet f_is_chime N_InvalidName f_InvalidName___init f_members_of f_meets f_law_small_right f_law_row f_law_great_right f_law : Addr}
    {od_law_source an_law_source od_law_next an_law_next od_law_mixed an_law_mixed od_law_great_bells an_law_great_bells od_law_bells an_law_bells od_law_divisor an_law_divisor od_law_round_of an_law_round_of od_law_at an_law_at od_law_tally an_law_tally od_Tower_periods an_Tower_periods dd_InvalidFirsts od_InvalidFirsts___init an_InvalidFirsts___init dT_InvalidFirsts___init od_is_integer an_is_integer od_need_firsts an_need_firsts od_pairs_of an_pairs_of od_place_of an_place_of od_divisor_of an_divisor_of od_places_of an_places_of od_Tower_names an_Tower_names od_Tower_full_round an_Tower_full_round od_common_multiple an_common_multiple od_meeting_counts an_meeting_counts od_bit_count_of an_bit_count_of od_counts_of an_counts_of od_Song___init an_Song___init od_is_name an_is_name od_is_bell an_is_bell od_tower_faults an_tower_faults dd_InvalidTower od_InvalidTower___init an_InvalidTower___init dT_InvalidTower___init od_Tower___init an_Tower___init od_law_sets an_law_sets od_Song_pattern an_Song_pattern od_Tower___len an_Tower___len od_Song_tower an_Song_tower od_do_meet an_do_meet od_is_chime an_is_chime dd_InvalidName od_InvalidName___init an_InvalidName___init od_members_of an_members_of od_meets an_meets od_law_small_right an_law_small_right od_law_row an_law_row od_law_great_right an_law_great_right od_law an_law : Option Addr}
    {sl_law_source sl_law_next sl_law_mixed sl_law_great_bells sl_law_bells sl_law_divisor sl_law_round_of sl_law_at sl_law_tally sl_Tower_periods sl_InvalidFirsts___init sT_InvalidFirsts___init sl_is_integer sl_need_firsts sl_pairs_of sl_place_of sl_divisor_of sl_places_of sl_Tower_names sl_Tower_full_round sl_common_multiple sl_meeting_counts sl_bit_count_of sl_counts_of sl_Song___init sl_is_name sl_is_bell sl_tower_faults sl_InvalidTower___init sT_InvalidTower___init sl_Tower___init sl_law_sets sl_Song_pattern sl_Tower___len sl_Song_tower sl_do_meet sl_is_chime sl_InvalidName___init sl_members_of sl_meets sl_law_small_right sl_law_row sl_law_great_right sl_law : Array (Option Value)}
    {oc_law_source kV_law_source dc_law_source pm_law_source cd_law_source ct_law_source oc_law_next kV_law_next dc_law_next pm_law_next cd_law_next ct_law_next oc_law_mixed kV_law_mixed dc_law_mixed pm_law_mixed cd_law_mixed ct_law_mixed oc_law_great_bells kV_law_great_bells dc_law_great_bells pm_law_great_bells cd_law_great_bells ct_law_great_bells oc_law_bells kV_law_bells dc_law_bells pm_law_bells cd_law_bells ct_law_bells oc_law_divisor kV_law_divisor dc_law_divisor pm_law_divisor cd_law_divisor ct_law_divisor oc_law_round_of kV_law_round_of dc_law_round_of pm_law_round_of cd_law_round_of ct_law_round_of oc_law_at kV_law_at dc_law_at pm_law_at cd_law_at ct_law_at oc_law_tally kV_law_tally dc_law_tally pm_law_tally cd_law_tally ct_law_tally oc_Tower_periods kV_Tower_periods dc_Tower_periods pm_Tower_periods cd_Tower_periods ct_Tower_periods oc_InvalidFirsts___init kV_InvalidFirsts___init dc_InvalidFirsts___init pm_InvalidFirsts___init cd_InvalidFirsts___init ct_InvalidFirsts___init oT_InvalidFirsts___init oc_is_integer kV_is_integer dc_is_integer pm_is_integer cd_is_integer ct_is_integer oc_need_firsts kV_need_firsts dc_need_firsts pm_need_firsts cd_need_firsts ct_need_firsts oc_pairs_of kV_pairs_of dc_pairs_of pm_pairs_of cd_pairs_of ct_pairs_of oc_place_of kV_place_of dc_place_of pm_place_of cd_place_of ct_place_of oc_divisor_of kV_divisor_of dc_divisor_of pm_divisor_of cd_divisor_of ct_divisor_of oc_places_of kV_places_of dc_places_of pm_places_of cd_places_of ct_places_of oc_Tower_names kV_Tower_names dc_Tower_names pm_Tower_names cd_Tower_names ct_Tower_names oc_Tower_full_round kV_Tower_full_round dc_Tower_full_round pm_Tower_full_round cd_Tower_full_round ct_Tower_full_round oc_common_multiple kV_common_multiple dc_common_multiple pm_common_multiple cd_common_multiple ct_common_multiple oc_meeting_counts kV_meeting_counts dc_meeting_counts pm_meeting_counts cd_meeting_counts ct_meeting_counts oc_bit_count_of kV_bit_count_of dc_bit_count_of pm_bit_count_of cd_bit_count_of ct_bit_count_of oc_counts_of kV_counts_of dc_counts_of pm_counts_of cd_counts_of ct_counts_of oc_Song___init kV_Song___init dc_Song___init pm_Song___init cd_Song___init ct_Song___init oc_is_name kV_is_name dc_is_name pm_is_name cd_is_name ct_is_name oc_is_bell kV_is_bell dc_is_bell pm_is_bell cd_is_bell ct_is_bell oc_tower_faults kV_tower_faults dc_tower_faults pm_tower_faults cd_tower_faults ct_tower_faults oc_InvalidTower___init kV_InvalidTower___init dc_InvalidTower___init pm_InvalidTower___init cd_InvalidTower___init ct_InvalidTower___init oT_InvalidTower___init oc_Tower___init kV_Tower___init dc_Tower___init pm_Tower___init cd_Tower___init ct_Tower___init oc_law_sets kV_law_sets dc_law_sets pm_law_sets cd_law_sets ct_law_sets oc_Song_pattern kV_Song_pattern dc_Song_pattern pm_Song_pattern cd_Song_pattern ct_Song_pattern oc_Tower___len kV_Tower___len dc_Tower___len pm_Tower___len cd_Tower___len ct_Tower___len oc_Song_tower kV_Song_tower dc_Song_tower pm_Song_tower cd_Song_tower ct_Song_tower oc_do_meet kV_do_meet dc_do_meet pm_do_meet cd_do_meet ct_do_meet oc_is_chime kV_is_chime dc_is_chime pm_is_chime cd_is_chime ct_is_chime oc_InvalidName___init kV_InvalidName___init dc_InvalidName___init pm_InvalidName___init cd_InvalidName___init ct_InvalidName___init oc_members_of kV_members_of dc_members_of pm_members_of cd_members_of ct_members_of oc_meets kV_meets dc_meets pm_meets cd_meets ct_meets oc_law_small_right kV_law_small_right dc_law_small_right pm_law_small_right cd_law_small_right ct_law_small_right oc_law_row kV_law_row dc_law_row pm_law_row cd_law_row ct_law_row oc_law_great_right kV_law_great_right dc_law_great_right pm_law_great_right cd_law_great_right ct_law_great_right oc_law kV_law dc_law pm_law cd_law ct_law : Value}
    {r_Tower_periods bs_InvalidFirsts su_InvalidFirsts r_Tower_names r_Tower_full_round bs_InvalidTower su_InvalidTower r_Song_pattern r_Song_tower bs_InvalidName su_InvalidName : List Value}
    {nm_InvalidFirsts q_InvalidFirsts nm_InvalidTower q_InvalidTower nm_InvalidName q_InvalidName : Str}
    {sn_InvalidFirsts sn_InvalidTower sn_InvalidName : List Str}
    {ab_InvalidFirsts ab_InvalidTower ab_InvalidName : Bool}
    {co_InvalidFirsts co_InvalidTower co_InvalidName : Option Bool}
    {m0_InvalidFirsts m1_InvalidFirsts m2_InvalidFirsts m3_InvalidFirsts m5_InvalidFirsts m0_InvalidTower m1_InvalidTower m2_InvalidTower m3_InvalidTower m5_InvalidTower m0_InvalidName m1_InvalidName m2_InvalidName m3_InvalidName m5_InvalidName : Option Value}
    {nT_InvalidFirsts___init nT_InvalidTower___init : Nat}
    {t_Tower_MAX_BELLS t_LETTERS t_Tower_MAX_PERIOD : Tok}
    (z_range : PySem.W.nsIn K mainGlobals "range" = some none)
    (z_max : PySem.W.nsIn K mainGlobals "max" = some none)
    (z_min : PySem.W.nsIn K mainGlobals "min" = some none)
    (z_len : PySem.W.nsIn K mainGlobals "len" = some none)
    (a_law_source : PySem.W.nsIn K mainGlobals "_law_source" = some (some (.ref f_law_source)))
    (l_law_source : K.lookup f_law_source = some ⟨oc_law_source, od_law_source, .func (PySem.W.fnOf "_law_source" "_law_source" (defArgs s_law_source) (defBody s_law_source) (defScope s_law_source) .none kV_law_source dc_law_source pm_law_source an_law_source cd_law_source ct_law_source), sl_law_source⟩)
    (c_law_source : PySem.W.codeIn K cd_law_source "_law_source" = true)
    (k_law_source : PySem.W.keepIn K (.ref f_law_source) = true)
    (z_sorted : PySem.W.nsIn K mainGlobals "sorted" = some none)
    (z_list : PySem.W.nsIn K mainGlobals "list" = some none)
    (a_law_next : PySem.W.nsIn K mainGlobals "_law_next" = some (some (.ref f_law_next)))
    (l_law_next : K.lookup f_law_next = some ⟨oc_law_next, od_law_next, .func (PySem.W.fnOf "_law_next" "_law_next" (defArgs s_law_next) (defBody s_law_next) (defScope s_law_next) .none kV_law_next dc_law_next pm_law_next an_law_next cd_law_next ct_law_next), sl_law_next⟩)
    (c_law_next : PySem.W.codeIn K cd_law_next "_law_next" = true)
    (k_law_next : PySem.W.keepIn K (.ref f_law_next) = true)
    (a_law_mixed : PySem.W.nsIn K mainGlobals "_law_mixed" = some (some (.ref f_law_mixed)))
    (l_law_mixed : K.lookup f_law_mixed = some ⟨oc_law_mixed, od_law_mixed, .func (PySem.W.fnOf "_law_mixed" "_law_mixed" (defArgs s_law_mixed) (defBody s_law_mixed) (defScope s_law_mixed) .none kV_law_mixed dc_law_mixed pm_law_mixed an_law_mixed cd_law_mixed ct_law_mixed), sl_law_mixed⟩)
    (c_law_mixed : PySem.W.codeIn K cd_law_mixed "_law_mixed" = true)
    (k_law_mixed : PySem.W.keepIn K (.ref f_law_mixed) = true)
    (z_tuple : PySem.W.nsIn K mainGlobals "tuple" = some none)
    (a_law_great_bells : PySem.W.nsIn K mainGlobals "_law_great_bells" = some (some (.ref f_law_great_bells)))
    (l_law_great_bells : K.lookup f_law_great_bells = some ⟨oc_law_great_bells, od_law_great_bells, .func (PySem.W.fnOf "_law_great_bells" "_law_great_bells" (defArgs s_law_great_bells) (defBody s_law_great_bells) (defScope s_law_great_bells) .none kV_law_great_bells dc_law_great_bells pm_law_great_bells an_law_great_bells cd_law_great_bells ct_law_great_bells), sl_law_great_bells⟩)
    (c_law_great_bells : PySem.W.codeIn K cd_law_great_bells "_law_great_bells" = true)
    (k_law_great_bells : PySem.W.keepIn K (.ref f_law_great_bells) = true)
    (a_law_bells : PySem.W.nsIn K mainGlobals "_law_bells" = some (some (.ref f_law_bells)))
    (l_law_bells : K.lookup f_law_bells = some ⟨oc_law_bells, od_law_bells, .func (PySem.W.fnOf "_law_bells" "_law_bells" (defArgs s_law_bells) (defBody s_law_bells) (defScope s_law_bells) .none kV_law_bells dc_law_bells pm_law_bells an_law_bells cd_law_bells ct_law_bells), sl_law_bells⟩)
    (c_law_bells : PySem.W.codeIn K cd_law_bells "_law_bells" = true)
    (k_law_bells : PySem.W.keepIn K (.ref f_law_bells) = true)
    (a_law_divisor : PySem.W.nsIn K mainGlobals "_law_divisor" = some (some (.ref f_law_divisor)))
    (l_law_divisor : K.lookup f_law_divisor = some ⟨oc_law_divisor, od_law_divisor, .func (PySem.W.fnOf "_law_divisor" "_law_divisor" (defArgs s_law_divisor) (defBody s_law_divisor) (defScope s_law_divisor) .none kV_law_divisor dc_law_divisor pm_law_divisor an_law_divisor cd_law_divisor ct_law_divisor), sl_law_divisor⟩)
    (c_law_divisor : PySem.W.codeIn K cd_law_divisor "_law_divisor" = true)
    (k_law_divisor : PySem.W.keepIn K (.ref f_law_divisor) = true)
    (a_law_round_of : PySem.W.nsIn K mainGlobals "_law_round_of" = some (some (.ref f_law_round_of)))
    (l_law_round_of : K.lookup f_law_round_of = some ⟨oc_law_round_of, od_law_round_of, .func (PySem.W.fnOf "_law_round_of" "_law_round_of" (defArgs s_law_round_of) (defBody s_law_round_of) (defScope s_law_round_of) .none kV_law_round_of dc_law_round_of pm_law_round_of an_law_round_of cd_law_round_of ct_law_round_of), sl_law_round_of⟩)
    (c_law_round_of : PySem.W.codeIn K cd_law_round_of "_law_round_of" = true)
    (k_law_round_of : PySem.W.keepIn K (.ref f_law_round_of) = true)
    (z_zip : PySem.W.nsIn K mainGlobals "zip" = some none)
    (a_law_at : PySem.W.nsIn K mainGlobals "_law_at" = some (some (.ref f_law_at)))
    (l_law_at : K.lookup f_law_at = some ⟨oc_law_at, od_law_at, .func (PySem.W.fnOf "_law_at" "_law_at" (defArgs s_law_at) (defBody s_law_at) (defScope s_law_at) .none kV_law_at dc_law_at pm_law_at an_law_at cd_law_at ct_law_at), sl_law_at⟩)
    (c_law_at : PySem.W.codeIn K cd_law_at "_law_at" = true)
    (k_law_at : PySem.W.keepIn K (.ref f_law_at) = true)
    (z_dict : PySem.W.nsIn K mainGlobals "dict" = some none)
    (a_law_tally : PySem.W.nsIn K mainGlobals "_law_tally" = some (some (.ref f_law_tally)))
    (l_law_tally : K.lookup f_law_tally = some ⟨oc_law_tally, od_law_tally, .func (PySem.W.fnOf "_law_tally" "_law_tally" (defArgs s_law_tally) (defBody s_law_tally) (defScope s_law_tally) .none kV_law_tally dc_law_tally pm_law_tally an_law_tally cd_law_tally ct_law_tally), sl_law_tally⟩)
    (c_law_tally : PySem.W.codeIn K cd_law_tally "_law_tally" = true)
    (k_law_tally : PySem.W.keepIn K (.ref f_law_tally) = true)
    (aC_Tower : PySem.W.nsIn K mainGlobals "Tower" = some (some (.ref C5)))
    (pg_Tower : PySem.W.plainGet K C5 Str.empty = true)
    (hd_Tower : PySem.W.hasDictIn K C5 = true)
    (po_Tower : PySem.W.plainOver K C5 = true)
    (sa_Tower : PySem.W.findIn K (.ref C5) "__setattr__" = some (some (.builtin "object.__setattr__")))
    (n_Tower_own_periods : PySem.W.findIn K (.ref C5) "own_periods" = some none)
    (b_Tower_periods : PySem.W.findIn K (.ref C5) "periods" = some (some (.ref p_Tower_periods)))
    (pge_Tower_periods : PySem.W.specialIn K (.ref p_Tower_periods) "__get__" = some (some (.builtin "property.__get__")))
    (pta_Tower_periods : PySem.W.takesIn K (.ref p_Tower_periods) = some true)
    (pre_Tower_periods : PySem.W.recIn K p_Tower_periods "property" = some (.ref f_Tower_periods :: r_Tower_periods))
    (l_Tower_periods : K.lookup f_Tower_periods = some ⟨oc_Tower_periods, od_Tower_periods, .func (PySem.W.fnOf "periods" "Tower.periods" (defArgs s_Tower_periods) (defBody s_Tower_periods) (defScope s_Tower_periods) .none kV_Tower_periods dc_Tower_periods pm_Tower_periods an_Tower_periods cd_Tower_periods ct_Tower_periods), sl_Tower_periods⟩)
    (c_Tower_periods : PySem.W.codeIn K cd_Tower_periods "Tower.periods" = true)
    (k_Tower_periods : PySem.W.keepIn K (.ref f_Tower_periods) = true)
    (z_isinstance : PySem.W.nsIn K mainGlobals "isinstance" = some none)
    (aC_BellError : PySem.W.nsIn K mainGlobals "BellError" = some (some (.ref C0)))
    (xg_BellError : PySem.W.findIn K (.ref C0) "__getattribute__" = some (some (.builtin "BaseException.__getattribute__")))
    (xk_BellError : PySem.W.findIn K (.ref C0) "__getattr__" = some none)
    (be_BellError : PySem.W.subIn K (.ref C0) (.type "BaseException") = some true)
    (hd_BellError : PySem.W.hasDictIn K C0 = true)
    (kc2_BellError : PySem.W.findIn K (.ref C0) "__class__" = some (some (.builtin "object.__class__")))
    (gs : PySem.W.specialIn K (.builtin "object.__class__") "__get__" = some (some (.builtin "getset_descriptor.__get__")))
    (gt : PySem.W.takesIn K (.builtin "object.__class__") = some true)
    (mo_BellError : PySem.W.mroIn K C0 (.type "object") = some true)
    (aC_InvalidTower : PySem.W.nsIn K mainGlobals "InvalidTower" = some (some (.ref C1)))
    (xg_InvalidTower : PySem.W.findIn K (.ref C1) "__getattribute__" = some (some (.builtin "BaseException.__getattribute__")))
    (xk_InvalidTower : PySem.W.findIn K (.ref C1) "__getattr__" = some none)
    (be_InvalidTower : PySem.W.subIn K (.ref C1) (.type "BaseException") = some true)
    (hd_InvalidTower : PySem.W.hasDictIn K C1 = true)
    (kc2_InvalidTower : PySem.W.findIn K (.ref C1) "__class__" = some (some (.builtin "object.__class__")))
    (mo_InvalidTower : PySem.W.mroIn K C1 (.type "object") = some true)
    (aC_InvalidName : PySem.W.nsIn K mainGlobals "InvalidName" = some (some (.ref C2)))
    (xg_InvalidName : PySem.W.findIn K (.ref C2) "__getattribute__" = some (some (.builtin "BaseException.__getattribute__")))
    (xk_InvalidName : PySem.W.findIn K (.ref C2) "__getattr__" = some none)
    (be_InvalidName : PySem.W.subIn K (.ref C2) (.type "BaseException") = some true)
    (hd_InvalidName : PySem.W.hasDictIn K C2 = true)
    (kc2_InvalidName : PySem.W.findIn K (.ref C2) "__class__" = some (some (.builtin "object.__class__")))
    (mo_InvalidName : PySem.W.mroIn K C2 (.type "object") = some true)
    (aC_InvalidFirsts : PySem.W.nsIn K mainGlobals "InvalidFirsts" = some (some (.ref C3)))
    (xg_InvalidFirsts : PySem.W.findIn K (.ref C3) "__getattribute__" = some (some (.builtin "BaseException.__getattribute__")))
    (xk_InvalidFirsts : PySem.W.findIn K (.ref C3) "__getattr__" = some none)
    (be_InvalidFirsts : PySem.W.subIn K (.ref C3) (.type "BaseException") = some true)
    (hd_InvalidFirsts : PySem.W.hasDictIn K C3 = true)
    (kc2_InvalidFirsts : PySem.W.findIn K (.ref C3) "__class__" = some (some (.builtin "object.__class__")))
    (mo_InvalidFirsts : PySem.W.mroIn K C3 (.type "object") = some true)
    (aC_InvalidNumber : PySem.W.nsIn K mainGlobals "InvalidNumber" = some (some (.ref C4)))
    (xg_InvalidNumber : PySem.W.findIn K (.ref C4) "__getattribute__" = some (some (.builtin "BaseException.__getattribute__")))
    (xk_InvalidNumber : PySem.W.findIn K (.ref C4) "__getattr__" = some none)
    (be_InvalidNumber : PySem.W.subIn K (.ref C4) (.type "BaseException") = some true)
    (hd_InvalidNumber : PySem.W.hasDictIn K C4 = true)
    (kc2_InvalidNumber : PySem.W.findIn K (.ref C4) "__class__" = some (some (.builtin "object.__class__")))
    (mo_InvalidNumber : PySem.W.mroIn K C4 (.type "object") = some true)
    (kc2_Tower : PySem.W.findIn K (.ref C5) "__class__" = some (some (.builtin "object.__class__")))
    (mo_Tower : PySem.W.mroIn K C5 (.type "object") = some true)
    (aC_Song : PySem.W.nsIn K mainGlobals "Song" = some (some (.ref C6)))
    (pg_Song : PySem.W.plainGet K C6 Str.empty = true)
    (hd_Song : PySem.W.hasDictIn K C6 = true)
    (po_Song : PySem.W.plainOver K C6 = true)
    (sa_Song : PySem.W.findIn K (.ref C6) "__setattr__" = some (some (.builtin "object.__setattr__")))
    (kc2_Song : PySem.W.findIn K (.ref C6) "__class__" = some (some (.builtin "object.__class__")))
    (mo_Song : PySem.W.mroIn K C6 (.type "object") = some true)
    (x_InvalidFirsts : K.lookup C3 = some (excClassObj nm_InvalidFirsts q_InvalidFirsts C3 N_InvalidFirsts bs_InvalidFirsts [.ref C0, .type "ValueError", .type "Exception", .type "BaseException", .type "object"] true sn_InvalidFirsts su_InvalidFirsts ab_InvalidFirsts co_InvalidFirsts dd_InvalidFirsts m0_InvalidFirsts m1_InvalidFirsts m2_InvalidFirsts m3_InvalidFirsts m5_InvalidFirsts "ValueError.__new__"))
    (sa_InvalidFirsts : PySem.W.findIn K (.ref C3) "__setattr__" = some (some (.builtin "object.__setattr__")))
    (tc_InvalidFirsts : PySem.W.typeIn K (.ref C3) = some (.type "type"))
    (kc_InvalidFirsts : PySem.W.keepIn K (.ref C3) = true)
    (b_InvalidFirsts___init : PySem.W.findIn K (.ref C3) "__init__" = some (some (.ref f_InvalidFirsts___init)))
    (l_InvalidFirsts___init : K.lookup f_InvalidFirsts___init = some ⟨oc_InvalidFirsts___init, od_InvalidFirsts___init, .func (PySem.W.fnOf "__init__" "InvalidFirsts.__init__" (defArgs s_InvalidFirsts___init) (defBody s_InvalidFirsts___init) (defScope s_InvalidFirsts___init) (.ref T_InvalidFirsts___init) kV_InvalidFirsts___init dc_InvalidFirsts___init pm_InvalidFirsts___init an_InvalidFirsts___init cd_InvalidFirsts___init ct_InvalidFirsts___init), sl_InvalidFirsts___init⟩)
    (c_InvalidFirsts___init : PySem.W.codeIn K cd_InvalidFirsts___init "InvalidFirsts.__init__" = true)
    (k_InvalidFirsts___init : PySem.W.keepIn K (.ref f_InvalidFirsts___init) = true)
    (tf_InvalidFirsts___init : PySem.W.typeIn K (.ref f_InvalidFirsts___init) = some (.type "function"))
    (n_InvalidFirsts_index : PySem.W.findIn K (.ref C3) "index" = some none)
    (lT_InvalidFirsts___init : K.lookup T_InvalidFirsts___init = some ⟨oT_InvalidFirsts___init, dT_InvalidFirsts___init, .seq #[.none] nT_InvalidFirsts___init, sT_InvalidFirsts___init⟩)
    (z_enumerate : PySem.W.nsIn K mainGlobals "enumerate" = some none)
    (z_int : PySem.W.nsIn K mainGlobals "int" = some none)
    (z_bool : PySem.W.nsIn K mainGlobals "bool" = some none)
    (a_is_integer : PySem.W.nsIn K mainGlobals "is_integer" = some (some (.ref f_is_integer)))
    (l_is_integer : K.lookup f_is_integer = some ⟨oc_is_integer, od_is_integer, .func (PySem.W.fnOf "is_integer" "is_integer" (defArgs s_is_integer) (defBody s_is_integer) (defScope s_is_integer) .none kV_is_integer dc_is_integer pm_is_integer an_is_integer cd_is_integer ct_is_integer), sl_is_integer⟩)
    (c_is_integer : PySem.W.codeIn K cd_is_integer "is_integer" = true)
    (k_is_integer : PySem.W.keepIn K (.ref f_is_integer) = true)
    (a_need_firsts : PySem.W.nsIn K mainGlobals "need_firsts" = some (some (.ref f_need_firsts)))
    (l_need_firsts : K.lookup f_need_firsts = some ⟨oc_need_firsts, od_need_firsts, .func (PySem.W.fnOf "need_firsts" "need_firsts" (defArgs s_need_firsts) (defBody s_need_firsts) (defScope s_need_firsts) .none kV_need_firsts dc_need_firsts pm_need_firsts an_need_firsts cd_need_firsts ct_need_firsts), sl_need_firsts⟩)
    (c_need_firsts : PySem.W.codeIn K cd_need_firsts "need_firsts" = true)
    (k_need_firsts : PySem.W.keepIn K (.ref f_need_firsts) = true)
    (n_Song_own_tower : PySem.W.findIn K (.ref C6) "own_tower" = some none)
    (n_Song_own_firsts : PySem.W.findIn K (.ref C6) "own_firsts" = some none)
    (a_pairs_of : PySem.W.nsIn K mainGlobals "pairs_of" = some (some (.ref f_pairs_of)))
    (l_pairs_of : K.lookup f_pairs_of = some ⟨oc_pairs_of, od_pairs_of, .func (PySem.W.fnOf "pairs_of" "pairs_of" (defArgs s_pairs_of) (defBody s_pairs_of) (defScope s_pairs_of) .none kV_pairs_of dc_pairs_of pm_pairs_of an_pairs_of cd_pairs_of ct_pairs_of), sl_pairs_of⟩)
    (c_pairs_of : PySem.W.codeIn K cd_pairs_of "pairs_of" = true)
    (k_pairs_of : PySem.W.keepIn K (.ref f_pairs_of) = true)
    (a_place_of : PySem.W.nsIn K mainGlobals "place_of" = some (some (.ref f_place_of)))
    (l_place_of : K.lookup f_place_of = some ⟨oc_place_of, od_place_of, .func (PySem.W.fnOf "place_of" "place_of" (defArgs s_place_of) (defBody s_place_of) (defScope s_place_of) .none kV_place_of dc_place_of pm_place_of an_place_of cd_place_of ct_place_of), sl_place_of⟩)
    (c_place_of : PySem.W.codeIn K cd_place_of "place_of" = true)
    (k_place_of : PySem.W.keepIn K (.ref f_place_of) = true)
    (a_divisor_of : PySem.W.nsIn K mainGlobals "divisor_of" = some (some (.ref f_divisor_of)))
    (l_divisor_of : K.lookup f_divisor_of = some ⟨oc_divisor_of, od_divisor_of, .func (PySem.W.fnOf "divisor_of" "divisor_of" (defArgs s_divisor_of) (defBody s_divisor_of) (defScope s_divisor_of) .none kV_divisor_of dc_divisor_of pm_divisor_of an_divisor_of cd_divisor_of ct_divisor_of), sl_divisor_of⟩)
    (c_divisor_of : PySem.W.codeIn K cd_divisor_of "divisor_of" = true)
    (k_divisor_of : PySem.W.keepIn K (.ref f_divisor_of) = true)
    (a_places_of : PySem.W.nsIn K mainGlobals "places_of" = some (some (.ref f_places_of)))
    (l_places_of : K.lookup f_places_of = some ⟨oc_places_of, od_places_of, .func (PySem.W.fnOf "places_of" "places_of" (defArgs s_places_of) (defBody s_places_of) (defScope s_places_of) .none kV_places_of dc_places_of pm_places_of an_places_of cd_places_of ct_places_of), sl_places_of⟩)
    (c_places_of : PySem.W.codeIn K cd_places_of "places_of" = true)
    (k_places_of : PySem.W.keepIn K (.ref f_places_of) = true)
    (n_Song_own_pattern : PySem.W.findIn K (.ref C6) "own_pattern" = some none)
    (n_Tower_own_names : PySem.W.findIn K (.ref C5) "own_names" = some none)
    (b_Tower_names : PySem.W.findIn K (.ref C5) "names" = some (some (.ref p_Tower_names)))
    (pge_Tower_names : PySem.W.specialIn K (.ref p_Tower_names) "__get__" = some (some (.builtin "property.__get__")))
    (pta_Tower_names : PySem.W.takesIn K (.ref p_Tower_names) = some true)
    (pre_Tower_names : PySem.W.recIn K p_Tower_names "property" = some (.ref f_Tower_names :: r_Tower_names))
    (l_Tower_names : K.lookup f_Tower_names = some ⟨oc_Tower_names, od_Tower_names, .func (PySem.W.fnOf "names" "Tower.names" (defArgs s_Tower_names) (defBody s_Tower_names) (defScope s_Tower_names) .none kV_Tower_names dc_Tower_names pm_Tower_names an_Tower_names cd_Tower_names ct_Tower_names), sl_Tower_names⟩)
    (c_Tower_names : PySem.W.codeIn K cd_Tower_names "Tower.names" = true)
    (k_Tower_names : PySem.W.keepIn K (.ref f_Tower_names) = true)
    (z_all : PySem.W.nsIn K mainGlobals "all" = some none)
    (n_Tower_own_round : PySem.W.findIn K (.ref C5) "own_round" = some none)
    (b_Tower_full_round : PySem.W.findIn K (.ref C5) "full_round" = some (some (.ref p_Tower_full_round)))
    (pge_Tower_full_round : PySem.W.specialIn K (.ref p_Tower_full_round) "__get__" = some (some (.builtin "property.__get__")))
    (pta_Tower_full_round : PySem.W.takesIn K (.ref p_Tower_full_round) = some true)
    (pre_Tower_full_round : PySem.W.recIn K p_Tower_full_round "property" = some (.ref f_Tower_full_round :: r_Tower_full_round))
    (l_Tower_full_round : K.lookup f_Tower_full_round = some ⟨oc_Tower_full_round, od_Tower_full_round, .func (PySem.W.fnOf "full_round" "Tower.full_round" (defArgs s_Tower_full_round) (defBody s_Tower_full_round) (defScope s_Tower_full_round) .none kV_Tower_full_round dc_Tower_full_round pm_Tower_full_round an_Tower_full_round cd_Tower_full_round ct_Tower_full_round), sl_Tower_full_round⟩)
    (c_Tower_full_round : PySem.W.codeIn K cd_Tower_full_round "Tower.full_round" = true)
    (k_Tower_full_round : PySem.W.keepIn K (.ref f_Tower_full_round) = true)
    (a_common_multiple : PySem.W.nsIn K mainGlobals "common_multiple" = some (some (.ref f_common_multiple)))
    (l_common_multiple : K.lookup f_common_multiple = some ⟨oc_common_multiple, od_common_multiple, .func (PySem.W.fnOf "common_multiple" "common_multiple" (defArgs s_common_multiple) (defBody s_common_multiple) (defScope s_common_multiple) .none kV_common_multiple dc_common_multiple pm_common_multiple an_common_multiple cd_common_multiple ct_common_multiple), sl_common_multiple⟩)
    (c_common_multiple : PySem.W.codeIn K cd_common_multiple "common_multiple" = true)
    (k_common_multiple : PySem.W.keepIn K (.ref f_common_multiple) = true)
    (a_meeting_counts : PySem.W.nsIn K mainGlobals "meeting_counts" = some (some (.ref f_meeting_counts)))
    (l_meeting_counts : K.lookup f_meeting_counts = some ⟨oc_meeting_counts, od_meeting_counts, .func (PySem.W.fnOf "meeting_counts" "meeting_counts" (defArgs s_meeting_counts) (defBody s_meeting_counts) (defScope s_meeting_counts) .none kV_meeting_counts dc_meeting_counts pm_meeting_counts an_meeting_counts cd_meeting_counts ct_meeting_counts), sl_meeting_counts⟩)
    (c_meeting_counts : PySem.W.codeIn K cd_meeting_counts "meeting_counts" = true)
    (k_meeting_counts : PySem.W.keepIn K (.ref f_meeting_counts) = true)
    (a_bit_count_of : PySem.W.nsIn K mainGlobals "bit_count_of" = some (some (.ref f_bit_count_of)))
    (l_bit_count_of : K.lookup f_bit_count_of = some ⟨oc_bit_count_of, od_bit_count_of, .func (PySem.W.fnOf "bit_count_of" "bit_count_of" (defArgs s_bit_count_of) (defBody s_bit_count_of) (defScope s_bit_count_of) .none kV_bit_count_of dc_bit_count_of pm_bit_count_of an_bit_count_of cd_bit_count_of ct_bit_count_of), sl_bit_count_of⟩)
    (c_bit_count_of : PySem.W.codeIn K cd_bit_count_of "bit_count_of" = true)
    (k_bit_count_of : PySem.W.keepIn K (.ref f_bit_count_of) = true)
    (a_counts_of : PySem.W.nsIn K mainGlobals "counts_of" = some (some (.ref f_counts_of)))
    (l_counts_of : K.lookup f_counts_of = some ⟨oc_counts_of, od_counts_of, .func (PySem.W.fnOf "counts_of" "counts_of" (defArgs s_counts_of) (defBody s_counts_of) (defScope s_counts_of) .none kV_counts_of dc_counts_of pm_counts_of an_counts_of cd_counts_of ct_counts_of), sl_counts_of⟩)
    (c_counts_of : PySem.W.codeIn K cd_counts_of "counts_of" = true)
    (k_counts_of : PySem.W.keepIn K (.ref f_counts_of) = true)
    (n_Song_own_chimes : PySem.W.findIn K (.ref C6) "own_chimes" = some none)
    (b_Song___init : PySem.W.findIn K (.ref C6) "__init__" = some (some (.ref f_Song___init)))
    (l_Song___init : K.lookup f_Song___init = some ⟨oc_Song___init, od_Song___init, .func (PySem.W.fnOf "__init__" "Song.__init__" (defArgs s_Song___init) (defBody s_Song___init) (defScope s_Song___init) .none kV_Song___init dc_Song___init pm_Song___init an_Song___init cd_Song___init ct_Song___init), sl_Song___init⟩)
    (c_Song___init : PySem.W.codeIn K cd_Song___init "Song.__init__" = true)
    (k_Song___init : PySem.W.keepIn K (.ref f_Song___init) = true)
    (mk_Song : PySem.W.makesIn K C6 = true)
    (kc_Song : PySem.W.keepIn K (.ref C6) = true)
    (i_Song___init : PySem.W.isFn K (.ref f_Song___init) = true)
    (rd_Tower : PySem.W.readsIn K C5 (.type "type") = true)
    (ga_Tower : PySem.W.specialIn K (.ref C5) "__getattribute__" = some (some (.builtin "type.__getattribute__")))
    (v_Tower_MAX_BELLS : PySem.W.findCls K (.ref C5) (.type "type") "MAX_BELLS" = some (.val (.int 5 t_Tower_MAX_BELLS)))
    (z_str : PySem.W.nsIn K mainGlobals "str" = some none)
    (g_LETTERS : PySem.W.nsIn K mainGlobals "LETTERS" = some (some (.str "abcdefghijklmnopqrstuvwxyz" t_LETTERS)))
    (a_is_name : PySem.W.nsIn K mainGlobals "is_name" = some (some (.ref f_is_name)))
    (l_is_name : K.lookup f_is_name = some ⟨oc_is_name, od_is_name, .func (PySem.W.fnOf "is_name" "is_name" (defArgs s_is_name) (defBody s_is_name) (defScope s_is_name) .none kV_is_name dc_is_name pm_is_name an_is_name cd_is_name ct_is_name), sl_is_name⟩)
    (c_is_name : PySem.W.codeIn K cd_is_name "is_name" = true)
    (k_is_name : PySem.W.keepIn K (.ref f_is_name) = true)
    (v_Tower_MAX_PERIOD : PySem.W.findCls K (.ref C5) (.type "type") "MAX_PERIOD" = some (.val (.int 30 t_Tower_MAX_PERIOD)))
    (a_is_bell : PySem.W.nsIn K mainGlobals "is_bell" = some (some (.ref f_is_bell)))
    (l_is_bell : K.lookup f_is_bell = some ⟨oc_is_bell, od_is_bell, .func (PySem.W.fnOf "is_bell" "is_bell" (defArgs s_is_bell) (defBody s_is_bell) (defScope s_is_bell) .none kV_is_bell dc_is_bell pm_is_bell an_is_bell cd_is_bell ct_is_bell), sl_is_bell⟩)
    (c_is_bell : PySem.W.codeIn K cd_is_bell "is_bell" = true)
    (k_is_bell : PySem.W.keepIn K (.ref f_is_bell) = true)
    (a_tower_faults : PySem.W.nsIn K mainGlobals "tower_faults" = some (some (.ref f_tower_faults)))
    (l_tower_faults : K.lookup f_tower_faults = some ⟨oc_tower_faults, od_tower_faults, .func (PySem.W.fnOf "tower_faults" "tower_faults" (defArgs s_tower_faults) (defBody s_tower_faults) (defScope s_tower_faults) .none kV_tower_faults dc_tower_faults pm_tower_faults an_tower_faults cd_tower_faults ct_tower_faults), sl_tower_faults⟩)
    (c_tower_faults : PySem.W.codeIn K cd_tower_faults "tower_faults" = true)
    (k_tower_faults : PySem.W.keepIn K (.ref f_tower_faults) = true)
    (x_InvalidTower : K.lookup C1 = some (excClassObj nm_InvalidTower q_InvalidTower C1 N_InvalidTower bs_InvalidTower [.ref C0, .type "ValueError", .type "Exception", .type "BaseException", .type "object"] true sn_InvalidTower su_InvalidTower ab_InvalidTower co_InvalidTower dd_InvalidTower m0_InvalidTower m1_InvalidTower m2_InvalidTower m3_InvalidTower m5_InvalidTower "ValueError.__new__"))
    (sa_InvalidTower : PySem.W.findIn K (.ref C1) "__setattr__" = some (some (.builtin "object.__setattr__")))
    (tc_InvalidTower : PySem.W.typeIn K (.ref C1) = some (.type "type"))
    (kc_InvalidTower : PySem.W.keepIn K (.ref C1) = true)
    (b_InvalidTower___init : PySem.W.findIn K (.ref C1) "__init__" = some (some (.ref f_InvalidTower___init)))
    (l_InvalidTower___init : K.lookup f_InvalidTower___init = some ⟨oc_InvalidTower___init, od_InvalidTower___init, .func (PySem.W.fnOf "__init__" "InvalidTower.__init__" (defArgs s_InvalidTower___init) (defBody s_InvalidTower___init) (defScope s_InvalidTower___init) (.ref T_InvalidTower___init) kV_InvalidTower___init dc_InvalidTower___init pm_InvalidTower___init an_InvalidTower___init cd_InvalidTower___init ct_InvalidTower___init), sl_InvalidTower___init⟩)
    (c_InvalidTower___init : PySem.W.codeIn K cd_InvalidTower___init "InvalidTower.__init__" = true)
    (k_InvalidTower___init : PySem.W.keepIn K (.ref f_InvalidTower___init) = true)
    (tf_InvalidTower___init : PySem.W.typeIn K (.ref f_InvalidTower___init) = some (.type "function"))
    (n_InvalidTower_index : PySem.W.findIn K (.ref C1) "index" = some none)
    (lT_InvalidTower___init : K.lookup T_InvalidTower___init = some ⟨oT_InvalidTower___init, dT_InvalidTower___init, .seq #[.none] nT_InvalidTower___init, sT_InvalidTower___init⟩)
    (n_Tower_own_bells : PySem.W.findIn K (.ref C5) "own_bells" = some none)
    (b_Tower___init : PySem.W.findIn K (.ref C5) "__init__" = some (some (.ref f_Tower___init)))
    (l_Tower___init : K.lookup f_Tower___init = some ⟨oc_Tower___init, od_Tower___init, .func (PySem.W.fnOf "__init__" "Tower.__init__" (defArgs s_Tower___init) (defBody s_Tower___init) (defScope s_Tower___init) .none kV_Tower___init dc_Tower___init pm_Tower___init an_Tower___init cd_Tower___init ct_Tower___init), sl_Tower___init⟩)
    (c_Tower___init : PySem.W.codeIn K cd_Tower___init "Tower.__init__" = true)
    (k_Tower___init : PySem.W.keepIn K (.ref f_Tower___init) = true)
    (mk_Tower : PySem.W.makesIn K C5 = true)
    (kc_Tower : PySem.W.keepIn K (.ref C5) = true)
    (i_Tower___init : PySem.W.isFn K (.ref f_Tower___init) = true)
    (a_law_sets : PySem.W.nsIn K mainGlobals "_law_sets" = some (some (.ref f_law_sets)))
    (l_law_sets : K.lookup f_law_sets = some ⟨oc_law_sets, od_law_sets, .func (PySem.W.fnOf "_law_sets" "_law_sets" (defArgs s_law_sets) (defBody s_law_sets) (defScope s_law_sets) .none kV_law_sets dc_law_sets pm_law_sets an_law_sets cd_law_sets ct_law_sets), sl_law_sets⟩)
    (c_law_sets : PySem.W.codeIn K cd_law_sets "_law_sets" = true)
    (k_law_sets : PySem.W.keepIn K (.ref f_law_sets) = true)
    (z_repr : PySem.W.nsIn K mainGlobals "repr" = some none)
    (b_Song_pattern : PySem.W.findIn K (.ref C6) "pattern" = some (some (.ref p_Song_pattern)))
    (pge_Song_pattern : PySem.W.specialIn K (.ref p_Song_pattern) "__get__" = some (some (.builtin "property.__get__")))
    (pta_Song_pattern : PySem.W.takesIn K (.ref p_Song_pattern) = some true)
    (pre_Song_pattern : PySem.W.recIn K p_Song_pattern "property" = some (.ref f_Song_pattern :: r_Song_pattern))
    (l_Song_pattern : K.lookup f_Song_pattern = some ⟨oc_Song_pattern, od_Song_pattern, .func (PySem.W.fnOf "pattern" "Song.pattern" (defArgs s_Song_pattern) (defBody s_Song_pattern) (defScope s_Song_pattern) .none kV_Song_pattern dc_Song_pattern pm_Song_pattern an_Song_pattern cd_Song_pattern ct_Song_pattern), sl_Song_pattern⟩)
    (c_Song_pattern : PySem.W.codeIn K cd_Song_pattern "Song.pattern" = true)
    (k_Song_pattern : PySem.W.keepIn K (.ref f_Song_pattern) = true)
    (b_Tower___len : PySem.W.findIn K (.ref C5) "__len__" = some (some (.ref f_Tower___len)))
    (l_Tower___len : K.lookup f_Tower___len = some ⟨oc_Tower___len, od_Tower___len, .func (PySem.W.fnOf "__len__" "Tower.__len__" (defArgs s_Tower___len) (defBody s_Tower___len) (defScope s_Tower___len) .none kV_Tower___len dc_Tower___len pm_Tower___len an_Tower___len cd_Tower___len ct_Tower___len), sl_Tower___len⟩)
    (c_Tower___len : PySem.W.codeIn K cd_Tower___len "Tower.__len__" = true)
    (k_Tower___len : PySem.W.keepIn K (.ref f_Tower___len) = true)
    (i_Tower___len : PySem.W.isFn K (.ref f_Tower___len) = true)
    (b_Song_tower : PySem.W.findIn K (.ref C6) "tower" = some (some (.ref p_Song_tower)))
    (pge_Song_tower : PySem.W.specialIn K (.ref p_Song_tower) "__get__" = some (some (.builtin "property.__get__")))
    (pta_Song_tower : PySem.W.takesIn K (.ref p_Song_tower) = some true)
    (pre_Song_tower : PySem.W.recIn K p_Song_tower "property" = some (.ref f_Song_tower :: r_Song_tower))
    (l_Song_tower : K.lookup f_Song_tower = some ⟨oc_Song_tower, od_Song_tower, .func (PySem.W.fnOf "tower" "Song.tower" (defArgs s_Song_tower) (defBody s_Song_tower) (defScope s_Song_tower) .none kV_Song_tower dc_Song_tower pm_Song_tower an_Song_tower cd_Song_tower ct_Song_tower), sl_Song_tower⟩)
    (c_Song_tower : PySem.W.codeIn K cd_Song_tower "Song.tower" = true)
    (k_Song_tower : PySem.W.keepIn K (.ref f_Song_tower) = true)
    (a_do_meet : PySem.W.nsIn K mainGlobals "do_meet" = some (some (.ref f_do_meet)))
    (l_do_meet : K.lookup f_do_meet = some ⟨oc_do_meet, od_do_meet, .func (PySem.W.fnOf "do_meet" "do_meet" (defArgs s_do_meet) (defBody s_do_meet) (defScope s_do_meet) .none kV_do_meet dc_do_meet pm_do_meet an_do_meet cd_do_meet ct_do_meet), sl_do_meet⟩)
    (c_do_meet : PySem.W.codeIn K cd_do_meet "do_meet" = true)
    (k_do_meet : PySem.W.keepIn K (.ref f_do_meet) = true)
    (a_is_chime : PySem.W.nsIn K mainGlobals "is_chime" = some (some (.ref f_is_chime)))
    (l_is_chime : K.lookup f_is_chime = some ⟨oc_is_chime, od_is_chime, .func (PySem.W.fnOf "is_chime" "is_chime" (defArgs s_is_chime) (defBody s_is_chime) (defScope s_is_chime) .none kV_is_chime dc_is_chime pm_is_chime an_is_chime cd_is_chime ct_is_chime), sl_is_chime⟩)
    (c_is_chime : PySem.W.codeIn K cd_is_chime "is_chime" = true)
    (k_is_chime : PySem.W.keepIn K (.ref f_is_chime) = true)
    (x_InvalidName : K.lookup C2 = some (excClassObj nm_InvalidName q_InvalidName C2 N_InvalidName bs_InvalidName [.ref C0, .type "ValueError", .type "Exception", .type "BaseException", .type "object"] true sn_InvalidName su_InvalidName ab_InvalidName co_InvalidName dd_InvalidName m0_InvalidName m1_InvalidName m2_InvalidName m3_InvalidName m5_InvalidName "ValueError.__new__"))
    (sa_InvalidName : PySem.W.findIn K (.ref C2) "__setattr__" = some (some (.builtin "object.__setattr__")))
    (tc_InvalidName : PySem.W.typeIn K (.ref C2) = some (.type "type"))
    (kc_InvalidName : PySem.W.keepIn K (.ref C2) = true)
    (b_InvalidName___init : PySem.W.findIn K (.ref C2) "__init__" = some (some (.ref f_InvalidName___init)))
    (l_InvalidName___init : K.lookup f_InvalidName___init = some ⟨oc_InvalidName___init, od_InvalidName___init, .func (PySem.W.fnOf "__init__" "InvalidName.__init__" (defArgs s_InvalidName___init) (defBody s_InvalidName___init) (defScope s_InvalidName___init) .none kV_InvalidName___init dc_InvalidName___init pm_InvalidName___init an_InvalidName___init cd_InvalidName___init ct_InvalidName___init), sl_InvalidName___init⟩)
    (c_InvalidName___init : PySem.W.codeIn K cd_InvalidName___init "InvalidName.__init__" = true)
    (k_InvalidName___init : PySem.W.keepIn K (.ref f_InvalidName___init) = true)
    (tf_InvalidName___init : PySem.W.typeIn K (.ref f_InvalidName___init) = some (.type "function"))
    (n_InvalidName_value : PySem.W.findIn K (.ref C2) "value" = some none)
    (a_members_of : PySem.W.nsIn K mainGlobals "members_of" = some (some (.ref f_members_of)))
    (l_members_of : K.lookup f_members_of = some ⟨oc_members_of, od_members_of, .func (PySem.W.fnOf "members_of" "members_of" (defArgs s_members_of) (defBody s_members_of) (defScope s_members_of) .none kV_members_of dc_members_of pm_members_of an_members_of cd_members_of ct_members_of), sl_members_of⟩)
    (c_members_of : PySem.W.codeIn K cd_members_of "members_of" = true)
    (k_members_of : PySem.W.keepIn K (.ref f_members_of) = true)
    (a_meets : PySem.W.nsIn K mainGlobals "meets" = some (some (.ref f_meets)))
    (l_meets : K.lookup f_meets = some ⟨oc_meets, od_meets, .func (PySem.W.fnOf "meets" "meets" (defArgs s_meets) (defBody s_meets) (defScope s_meets) .none kV_meets dc_meets pm_meets an_meets cd_meets ct_meets), sl_meets⟩)
    (c_meets : PySem.W.codeIn K cd_meets "meets" = true)
    (k_meets : PySem.W.keepIn K (.ref f_meets) = true)
    (a_law_small_right : PySem.W.nsIn K mainGlobals "_law_small_right" = some (some (.ref f_law_small_right)))
    (l_law_small_right : K.lookup f_law_small_right = some ⟨oc_law_small_right, od_law_small_right, .func (PySem.W.fnOf "_law_small_right" "_law_small_right" (defArgs s_law_small_right) (defBody s_law_small_right) (defScope s_law_small_right) .none kV_law_small_right dc_law_small_right pm_law_small_right an_law_small_right cd_law_small_right ct_law_small_right), sl_law_small_right⟩)
    (c_law_small_right : PySem.W.codeIn K cd_law_small_right "_law_small_right" = true)
    (k_law_small_right : PySem.W.keepIn K (.ref f_law_small_right) = true)
    (a_law_row : PySem.W.nsIn K mainGlobals "_law_row" = some (some (.ref f_law_row)))
    (l_law_row : K.lookup f_law_row = some ⟨oc_law_row, od_law_row, .func (PySem.W.fnOf "_law_row" "_law_row" (defArgs s_law_row) (defBody s_law_row) (defScope s_law_row) .none kV_law_row dc_law_row pm_law_row an_law_row cd_law_row ct_law_row), sl_law_row⟩)
    (c_law_row : PySem.W.codeIn K cd_law_row "_law_row" = true)
    (k_law_row : PySem.W.keepIn K (.ref f_law_row) = true)
    (a_law_great_right : PySem.W.nsIn K mainGlobals "_law_great_right" = some (some (.ref f_law_great_right)))
    (l_law_great_right : K.lookup f_law_great_right = some ⟨oc_law_great_right, od_law_great_right, .func (PySem.W.fnOf "_law_great_right" "_law_great_right" (defArgs s_law_great_right) (defBody s_law_great_right) (defScope s_law_great_right) .none kV_law_great_right dc_law_great_right pm_law_great_right an_law_great_right cd_law_great_right ct_law_great_right), sl_law_great_right⟩)
    (c_law_great_right : PySem.W.codeIn K cd_law_great_right "_law_great_right" = true)
    (k_law_great_right : PySem.W.keepIn K (.ref f_law_great_right) = true)
    (a_law : PySem.W.nsIn K mainGlobals "law" = some (some (.ref f_law)))
    (l_law : K.lookup f_law = some ⟨oc_law, od_law, .func (PySem.W.fnOf "law" "law" (defArgs s_law) (defBody s_law) (defScope s_law) .none kV_law dc_law pm_law an_law cd_law ct_law), sl_law⟩)
    (c_law : PySem.W.codeIn K cd_law "law" = true)
    (k_law : PySem.W.keepIn K (.ref f_law) = true) :
    ∃ (fd : FuncData) (cm : Nat → Addr), (∀ (s : Shared) (u : Value), BindsTo s fd ⟨[u], []⟩ [("_law_script", u)]) ∧ ∀ base : Heap, K.In base → base.Ns mainGlobals mg → FnG P w K mg base 9 fa fd ["_law_script"] (spD K cm 1 F_law) := by
  have e := hfa.symm.trans (PySem.W.mg_of X G a_law)
  cases e
  have Tx : Txt K mg (fun i => match i with | 0 => C0 | 1 => C1 | 2 => C2 | 3 => C3 | 4 => C4 | 5 => C5 | 6 => C6 | _ => 0) := {
    b_range := PySem.W.mg_none_of X G z_range
    b_max := PySem.W.mg_none_of X G z_max
    b_min := PySem.W.mg_none_of X G z_min
    b_len := PySem.W.mg_none_of X G z_len
    f_law_source := ⟨_, _, PySem.W.mg_of X G a_law_source, k_law_source, ((fun_mk (st := s_law_source) l_law_source c_law_source k_law_source).binds (ps := ["_law_script", "_law_k"]) fun _ _ _ _ _ _ us hl => match us, hl with | [_, _], _ => rfl), (fun_mk (st := s_law_source) l_law_source c_law_source k_law_source)⟩
    b_sorted := PySem.W.mg_none_of X G z_sorted
    b_list := PySem.W.mg_none_of X G z_list
    f_law_next := ⟨_, _, PySem.W.mg_of X G a_law_next, k_law_next, ((fun_mk (st := s_law_next) l_law_next c_law_next k_law_next).binds (ps := ["_law_source_here", "_law_many"]) fun _ _ _ _ _ _ us hl => match us, hl with | [_, _], _ => rfl), (fun_mk (st := s_law_next) l_law_next c_law_next k_law_next)⟩
    f_law_mixed := ⟨_, _, PySem.W.mg_of X G a_law_mixed, k_law_mixed, ((fun_mk (st := s_law_mixed) l_law_mixed c_law_mixed k_law_mixed).binds (ps := ["_law_source_here", "_law_items"]) fun _ _ _ _ _ _ us hl => match us, hl with | [_, _], _ => rfl), (fun_mk (st := s_law_mixed) l_law_mixed c_law_mixed k_law_mixed)⟩
    b_tuple := PySem.W.mg_none_of X G z_tuple
    f_law_great_bells := ⟨_, _, PySem.W.mg_of X G a_law_great_bells, k_law_great_bells, ((fun_mk (st := s_law_great_bells) l_law_great_bells c_law_great_bells k_law_great_bells).binds (ps := ["_law_source_here"]) fun _ _ _ _ _ _ us hl => match us, hl with | [_], _ => rfl), (fun_mk (st := s_law_great_bells) l_law_great_bells c_law_great_bells k_law_great_bells)⟩
    f_law_bells := ⟨_, _, PySem.W.mg_of X G a_law_bells, k_law_bells, ((fun_mk (st := s_law_bells) l_law_bells c_law_bells k_law_bells).binds (ps := ["_law_source_here", "_law_top"]) fun _ _ _ _ _ _ us hl => match us, hl with | [_, _], _ => rfl), (fun_mk (st := s_law_bells) l_law_bells c_law_bells k_law_bells)⟩
    f_law_divisor := ⟨_, _, PySem.W.mg_of X G a_law_divisor, k_law_divisor, ((fun_mk (st := s_law_divisor) l_law_divisor c_law_divisor k_law_divisor).binds (ps := ["_law_one", "_law_other"]) fun _ _ _ _ _ _ us hl => match us, hl with | [_, _], _ => rfl), (fun_mk (st := s_law_divisor) l_law_divisor c_law_divisor k_law_divisor)⟩
    f_law_round_of := ⟨_, _, PySem.W.mg_of X G a_law_round_of, k_law_round_of, ((fun_mk (st := s_law_round_of) l_law_round_of c_law_round_of k_law_round_of).binds (ps := ["_law_bells_here"]) fun _ _ _ _ _ _ us hl => match us, hl with | [_], _ => rfl), (fun_mk (st := s_law_round_of) l_law_round_of c_law_round_of k_law_round_of)⟩
    b_zip := PySem.W.mg_none_of X G z_zip
    f_law_at := ⟨_, _, PySem.W.mg_of X G a_law_at, k_law_at, ((fun_mk (st := s_law_at) l_law_at c_law_at k_law_at).binds (ps := ["_law_bells_here", "_law_row_here", "_law_time"]) fun _ _ _ _ _ _ us hl => match us, hl with | [_, _, _], _ => rfl), (fun_mk (st := s_law_at) l_law_at c_law_at k_law_at)⟩
    b_dict := PySem.W.mg_none_of X G z_dict
    f_law_tally := ⟨_, _, PySem.W.mg_of X G a_law_tally, k_law_tally, ((fun_mk (st := s_law_tally) l_law_tally c_law_tally k_law_tally).binds (ps := ["_law_bells_here", "_law_row_here"]) fun _ _ _ _ _ _ us hl => match us, hl with | [_, _], _ => rfl), (fun_mk (st := s_law_tally) l_law_tally c_law_tally k_law_tally)⟩
    mg_Tower := PySem.W.mg_of X G aC_Tower
    cl_Tower := ⟨pg_Tower, hd_Tower, po_Tower, sa_Tower⟩
    na_Tower_own_periods := n_Tower_own_periods
    p_Tower_periods := ⟨_, _, _, ⟨b_Tower_periods, pge_Tower_periods, pta_Tower_periods, ⟨_, pre_Tower_periods⟩⟩, ((fun_mk (st := s_Tower_periods) l_Tower_periods c_Tower_periods k_Tower_periods).binds (ps := ["self"]) fun _ _ _ _ _ _ us hl => match us, hl with | [_], _ => rfl), (fun_mk (st := s_Tower_periods) l_Tower_periods c_Tower_periods k_Tower_periods)⟩
    b_isinstance := PySem.W.mg_none_of X G z_isinstance
    ec_BellError := ⟨xg_BellError, xk_BellError, be_BellError, hd_BellError, kc2_BellError, gs, gt, mo_BellError⟩
    ec_InvalidTower := ⟨xg_InvalidTower, xk_InvalidTower, be_InvalidTower, hd_InvalidTower, kc2_InvalidTower, gs, gt, mo_InvalidTower⟩
    ec_InvalidName := ⟨xg_InvalidName, xk_InvalidName, be_InvalidName, hd_InvalidName, kc2_InvalidName, gs, gt, mo_InvalidName⟩
    ec_InvalidFirsts := ⟨xg_InvalidFirsts, xk_InvalidFirsts, be_InvalidFirsts, hd_InvalidFirsts, kc2_InvalidFirsts, gs, gt, mo_InvalidFirsts⟩
    ec_InvalidNumber := ⟨xg_InvalidNumber, xk_InvalidNumber, be_InvalidNumber, hd_InvalidNumber, kc2_InvalidNumber, gs, gt, mo_InvalidNumber⟩
    ec_Tower := ⟨⟨pg_Tower, hd_Tower, po_Tower, sa_Tower⟩, kc2_Tower, gs, gt, mo_Tower⟩
    ec_Song := ⟨⟨pg_Song, hd_Song, po_Song, sa_Song⟩, kc2_Song, gs, gt, mo_Song⟩
    mg_InvalidFirsts := PySem.W.mg_of X G aC_InvalidFirsts
    ox_InvalidFirsts := ⟨⟨_, _, _, _, _, _, _, _, _, _, _, _, _, _, _, x_InvalidFirsts, rfl⟩, sa_InvalidFirsts, be_InvalidFirsts, tc_InvalidFirsts, kc_InvalidFirsts⟩
    ri_InvalidFirsts := ⟨_, _, _, _, _, _, _, _, _, _, _, b_InvalidFirsts___init, tf_InvalidFirsts___init, (binds_one (ps := ["self", "index"]) l_InvalidFirsts___init c_InvalidFirsts___init k_InvalidFirsts___init lT_InvalidFirsts___init fun _ _ _ _ _ _ _ us its h1 h2 => match us, h1, its, h2 with | [_, _], _, [_], _ => ⟨_, rfl, rfl⟩), l_InvalidFirsts___init, c_InvalidFirsts___init, n_InvalidFirsts_index⟩
    b_enumerate := PySem.W.mg_none_of X G z_enumerate
    b_int := PySem.W.mg_none_of X G z_int
    b_bool := PySem.W.mg_none_of X G z_bool
    f_is_integer := ⟨_, _, PySem.W.mg_of X G a_is_integer, k_is_integer, ((fun_mk (st := s_is_integer) l_is_integer c_is_integer k_is_integer).binds (ps := ["value", "least", "most"]) fun _ _ _ _ _ _ us hl => match us, hl with | [_, _, _], _ => rfl), (fun_mk (st := s_is_integer) l_is_integer c_is_integer k_is_integer)⟩
    f_need_firsts := ⟨_, _, PySem.W.mg_of X G a_need_firsts, k_need_firsts, ((fun_mk (st := s_need_firsts) l_need_firsts c_need_firsts k_need_firsts).binds (ps := ["tower", "value"]) fun _ _ _ _ _ _ us hl => match us, hl with | [_, _], _ => rfl), (fun_mk (st := s_need_firsts) l_need_firsts c_need_firsts k_need_firsts)⟩
    mg_Song := PySem.W.mg_of X G aC_Song
    cl_Song := ⟨pg_Song, hd_Song, po_Song, sa_Song⟩
    na_Song_own_tower := n_Song_own_tower
    na_Song_own_firsts := n_Song_own_firsts
    f_pairs_of := ⟨_, _, PySem.W.mg_of X G a_pairs_of, k_pairs_of, ((fun_mk (st := s_pairs_of) l_pairs_of c_pairs_of k_pairs_of).binds (ps := ["many"]) fun _ _ _ _ _ _ us hl => match us, hl with | [_], _ => rfl), (fun_mk (st := s_pairs_of) l_pairs_of c_pairs_of k_pairs_of)⟩
    f_place_of := ⟨_, _, PySem.W.mg_of X G a_place_of, k_place_of, ((fun_mk (st := s_place_of) l_place_of c_place_of k_place_of).binds (ps := ["difference", "divisor"]) fun _ _ _ _ _ _ us hl => match us, hl with | [_, _], _ => rfl), (fun_mk (st := s_place_of) l_place_of c_place_of k_place_of)⟩
    f_divisor_of := ⟨_, _, PySem.W.mg_of X G a_divisor_of, k_divisor_of, ((fun_mk (st := s_divisor_of) l_divisor_of c_divisor_of k_divisor_of).binds (ps := ["one", "other"]) fun _ _ _ _ _ _ us hl => match us, hl with | [_, _], _ => rfl), (fun_mk (st := s_divisor_of) l_divisor_of c_divisor_of k_divisor_of)⟩
    f_places_of := ⟨_, _, PySem.W.mg_of X G a_places_of, k_places_of, ((fun_mk (st := s_places_of) l_places_of c_places_of k_places_of).binds (ps := ["periods", "firsts"]) fun _ _ _ _ _ _ us hl => match us, hl with | [_, _], _ => rfl), (fun_mk (st := s_places_of) l_places_of c_places_of k_places_of)⟩
    na_Song_own_pattern := n_Song_own_pattern
    na_Tower_own_names := n_Tower_own_names
    p_Tower_names := ⟨_, _, _, ⟨b_Tower_names, pge_Tower_names, pta_Tower_names, ⟨_, pre_Tower_names⟩⟩, ((fun_mk (st := s_Tower_names) l_Tower_names c_Tower_names k_Tower_names).binds (ps := ["self"]) fun _ _ _ _ _ _ us hl => match us, hl with | [_], _ => rfl), (fun_mk (st := s_Tower_names) l_Tower_names c_Tower_names k_Tower_names)⟩
    b_all := PySem.W.mg_none_of X G z_all
    na_Tower_own_round := n_Tower_own_round
    p_Tower_full_round := ⟨_, _, _, ⟨b_Tower_full_round, pge_Tower_full_round, pta_Tower_full_round, ⟨_, pre_Tower_full_round⟩⟩, ((fun_mk (st := s_Tower_full_round) l_Tower_full_round c_Tower_full_round k_Tower_full_round).binds (ps := ["self"]) fun _ _ _ _ _ _ us hl => match us, hl with | [_], _ => rfl), (fun_mk (st := s_Tower_full_round) l_Tower_full_round c_Tower_full_round k_Tower_full_round)⟩
    f_common_multiple := ⟨_, _, PySem.W.mg_of X G a_common_multiple, k_common_multiple, ((fun_mk (st := s_common_multiple) l_common_multiple c_common_multiple k_common_multiple).binds (ps := ["numbers"]) fun _ _ _ _ _ _ us hl => match us, hl with | [_], _ => rfl), (fun_mk (st := s_common_multiple) l_common_multiple c_common_multiple k_common_multiple)⟩
    f_meeting_counts := ⟨_, _, PySem.W.mg_of X G a_meeting_counts, k_meeting_counts, ((fun_mk (st := s_meeting_counts) l_meeting_counts c_meeting_counts k_meeting_counts).binds (ps := ["tower", "places"]) fun _ _ _ _ _ _ us hl => match us, hl with | [_, _], _ => rfl), (fun_mk (st := s_meeting_counts) l_meeting_counts c_meeting_counts k_meeting_counts)⟩
    f_bit_count_of := ⟨_, _, PySem.W.mg_of X G a_bit_count_of, k_bit_count_of, ((fun_mk (st := s_bit_count_of) l_bit_count_of c_bit_count_of k_bit_count_of).binds (ps := ["bits"]) fun _ _ _ _ _ _ us hl => match us, hl with | [_], _ => rfl), (fun_mk (st := s_bit_count_of) l_bit_count_of c_bit_count_of k_bit_count_of)⟩
    f_counts_of := ⟨_, _, PySem.W.mg_of X G a_counts_of, k_counts_of, ((fun_mk (st := s_counts_of) l_counts_of c_counts_of k_counts_of).binds (ps := ["tower", "places"]) fun _ _ _ _ _ _ us hl => match us, hl with | [_, _], _ => rfl), (fun_mk (st := s_counts_of) l_counts_of c_counts_of k_counts_of)⟩
    na_Song_own_chimes := n_Song_own_chimes
    i_Song := ⟨_, _, ⟨mk_Song, b_Song___init, i_Song___init, kc_Song⟩, ((fun_mk (st := s_Song___init) l_Song___init c_Song___init k_Song___init).binds (ps := ["self", "tower", "firsts"]) fun _ _ _ _ _ _ us hl => match us, hl with | [_, _, _], _ => rfl), (fun_mk (st := s_Song___init) l_Song___init c_Song___init k_Song___init)⟩
    cv_Tower_MAX_BELLS := ⟨_, _, ⟨rd_Tower, ga_Tower⟩, ⟨v_Tower_MAX_BELLS, ⟨_, rfl⟩⟩⟩
    b_str := PySem.W.mg_none_of X G z_str
    g_LETTERS := ⟨_, PySem.W.mg_of X G g_LETTERS⟩
    f_is_name := ⟨_, _, PySem.W.mg_of X G a_is_name, k_is_name, ((fun_mk (st := s_is_name) l_is_name c_is_name k_is_name).binds (ps := ["value"]) fun _ _ _ _ _ _ us hl => match us, hl with | [_], _ => rfl), (fun_mk (st := s_is_name) l_is_name c_is_name k_is_name)⟩
    cv_Tower_MAX_PERIOD := ⟨_, _, ⟨rd_Tower, ga_Tower⟩, ⟨v_Tower_MAX_PERIOD, ⟨_, rfl⟩⟩⟩
    f_is_bell := ⟨_, _, PySem.W.mg_of X G a_is_bell, k_is_bell, ((fun_mk (st := s_is_bell) l_is_bell c_is_bell k_is_bell).binds (ps := ["value"]) fun _ _ _ _ _ _ us hl => match us, hl with | [_], _ => rfl), (fun_mk (st := s_is_bell) l_is_bell c_is_bell k_is_bell)⟩
    f_tower_faults := ⟨_, _, PySem.W.mg_of X G a_tower_faults, k_tower_faults, ((fun_mk (st := s_tower_faults) l_tower_faults c_tower_faults k_tower_faults).binds (ps := ["value"]) fun _ _ _ _ _ _ us hl => match us, hl with | [_], _ => rfl), (fun_mk (st := s_tower_faults) l_tower_faults c_tower_faults k_tower_faults)⟩
    mg_InvalidTower := PySem.W.mg_of X G aC_InvalidTower
    ox_InvalidTower := ⟨⟨_, _, _, _, _, _, _, _, _, _, _, _, _, _, _, x_InvalidTower, rfl⟩, sa_InvalidTower, be_InvalidTower, tc_InvalidTower, kc_InvalidTower⟩
    ri_InvalidTower := ⟨_, _, _, _, _, _, _, _, _, _, _, b_InvalidTower___init, tf_InvalidTower___init, (binds_one (ps := ["self", "index"]) l_InvalidTower___init c_InvalidTower___init k_InvalidTower___init lT_InvalidTower___init fun _ _ _ _ _ _ _ us its h1 h2 => match us, h1, its, h2 with | [_, _], _, [_], _ => ⟨_, rfl, rfl⟩), l_InvalidTower___init, c_InvalidTower___init, n_InvalidTower_index⟩
    na_Tower_own_bells := n_Tower_own_bells
    i_Tower := ⟨_, _, ⟨mk_Tower, b_Tower___init, i_Tower___init, kc_Tower⟩, ((fun_mk (st := s_Tower___init) l_Tower___init c_Tower___init k_Tower___init).binds (ps := ["self", "bells"]) fun _ _ _ _ _ _ us hl => match us, hl with | [_, _], _ => rfl), (fun_mk (st := s_Tower___init) l_Tower___init c_Tower___init k_Tower___init)⟩
    f_law_sets := ⟨_, _, PySem.W.mg_of X G a_law_sets, k_law_sets, ((fun_mk (st := s_law_sets) l_law_sets c_law_sets k_law_sets).binds (ps := ["_law_bells_here"]) fun _ _ _ _ _ _ us hl => match us, hl with | [_], _ => rfl), (fun_mk (st := s_law_sets) l_law_sets c_law_sets k_law_sets)⟩
    b_repr := PySem.W.mg_none_of X G z_repr
    p_Song_pattern := ⟨_, _, _, ⟨b_Song_pattern, pge_Song_pattern, pta_Song_pattern, ⟨_, pre_Song_pattern⟩⟩, ((fun_mk (st := s_Song_pattern) l_Song_pattern c_Song_pattern k_Song_pattern).binds (ps := ["self"]) fun _ _ _ _ _ _ us hl => match us, hl with | [_], _ => rfl), (fun_mk (st := s_Song_pattern) l_Song_pattern c_Song_pattern k_Song_pattern)⟩
    l_Tower := ⟨_, _, b_Tower___len, i_Tower___len, ((fun_mk (st := s_Tower___len) l_Tower___len c_Tower___len k_Tower___len).binds (ps := ["self"]) fun _ _ _ _ _ _ us hl => match us, hl with | [_], _ => rfl), (fun_mk (st := s_Tower___len) l_Tower___len c_Tower___len k_Tower___len)⟩
    p_Song_tower := ⟨_, _, _, ⟨b_Song_tower, pge_Song_tower, pta_Song_tower, ⟨_, pre_Song_tower⟩⟩, ((fun_mk (st := s_Song_tower) l_Song_tower c_Song_tower k_Song_tower).binds (ps := ["self"]) fun _ _ _ _ _ _ us hl => match us, hl with | [_], _ => rfl), (fun_mk (st := s_Song_tower) l_Song_tower c_Song_tower k_Song_tower)⟩
    f_do_meet := ⟨_, _, PySem.W.mg_of X G a_do_meet, k_do_meet, ((fun_mk (st := s_do_meet) l_do_meet c_do_meet k_do_meet).binds (ps := ["song", "members"]) fun _ _ _ _ _ _ us hl => match us, hl with | [_, _], _ => rfl), (fun_mk (st := s_do_meet) l_do_meet c_do_meet k_do_meet)⟩
    f_is_chime := ⟨_, _, PySem.W.mg_of X G a_is_chime, k_is_chime, ((fun_mk (st := s_is_chime) l_is_chime c_is_chime k_is_chime).binds (ps := ["names", "value"]) fun _ _ _ _ _ _ us hl => match us, hl with | [_, _], _ => rfl), (fun_mk (st := s_is_chime) l_is_chime c_is_chime k_is_chime)⟩
    mg_InvalidName := PySem.W.mg_of X G aC_InvalidName
    ox_InvalidName := ⟨⟨_, _, _, _, _, _, _, _, _, _, _, _, _, _, _, x_InvalidName, rfl⟩, sa_InvalidName, be_InvalidName, tc_InvalidName, kc_InvalidName⟩
    ri_InvalidName := ⟨_, _, _, _, _, _, _, _, _, _, _, b_InvalidName___init, tf_InvalidName___init, ((fun_mk (st := s_InvalidName___init) l_InvalidName___init c_InvalidName___init k_InvalidName___init).binds (ps := ["self", "value"]) fun _ _ _ _ _ _ us hl => match us, hl with | [_, _], _ => rfl), l_InvalidName___init, c_InvalidName___init, n_InvalidName_value⟩
    f_members_of := ⟨_, _, PySem.W.mg_of X G a_members_of, k_members_of, ((fun_mk (st := s_members_of) l_members_of c_members_of k_members_of).binds (ps := ["song", "names"]) fun _ _ _ _ _ _ us hl => match us, hl with | [_, _], _ => rfl), (fun_mk (st := s_members_of) l_members_of c_members_of k_members_of)⟩
    f_meets := ⟨_, _, PySem.W.mg_of X G a_meets, k_meets, ((fun_mk (st := s_meets) l_meets c_meets k_meets).binds (ps := ["song", "names"]) fun _ _ _ _ _ _ us hl => match us, hl with | [_, _], _ => rfl), (fun_mk (st := s_meets) l_meets c_meets k_meets)⟩
    f_law_small_right := ⟨_, _, PySem.W.mg_of X G a_law_small_right, k_law_small_right, ((fun_mk (st := s_law_small_right) l_law_small_right c_law_small_right k_law_small_right).binds (ps := ["_law_bells_here", "_law_row_here"]) fun _ _ _ _ _ _ us hl => match us, hl with | [_, _], _ => rfl), (fun_mk (st := s_law_small_right) l_law_small_right c_law_small_right k_law_small_right)⟩
    f_law_row := ⟨_, _, PySem.W.mg_of X G a_law_row, k_law_row, ((fun_mk (st := s_law_row) l_law_row c_law_row k_law_row).binds (ps := ["_law_source_here", "_law_bells_here"]) fun _ _ _ _ _ _ us hl => match us, hl with | [_, _], _ => rfl), (fun_mk (st := s_law_row) l_law_row c_law_row k_law_row)⟩
    f_law_great_right := ⟨_, _, PySem.W.mg_of X G a_law_great_right, k_law_great_right, ((fun_mk (st := s_law_great_right) l_law_great_right c_law_great_right k_law_great_right).binds (ps := ["_law_bells_here", "_law_row_here"]) fun _ _ _ _ _ _ us hl => match us, hl with | [_, _], _ => rfl), (fun_mk (st := s_law_great_right) l_law_great_right c_law_great_right k_law_great_right)⟩ }
  exact ⟨PySem.W.fnOf "law" "law" (defArgs s_law) (defBody s_law) (defScope s_law) .none kV_law dc_law pm_law an_law cd_law ct_law, _, fun s v => .of_eq rfl, fun base _ _ =>
    def_pure (fun_mk (st := s_law) l_law c_law k_law) sc_law fun cdv A outer s H E ck => b_law Tx ck⟩
end G

open PySem PySem.W PyProof.Rows in
set_option maxRecDepth 100000 in
set_option maxHeartbeats 0 in
theorem PySem.Challenge.cw_heardorder_k39_bells_that_meet_holds : PySem.Challenge.rw_heardorder_k39_bells_that_meet.Holds := by
  w_on; o_law; k_head; (case hw => w_witness2)
  k_fill
  refine DL.walk_D (l := PySem.Challenge.rw_heardorder_k39_bells_that_meet) (n := 63) (k := 9) (x := "_law_script") (φ := G.F_law) rfl (by decide) rfl ⟨rfl, by decide, by decide⟩ (fun w h Y => PySem.W.kIn_of Y) ?F (fun ns hl => Law.holds ns hl)
  case F =>
    intro w mg fa h KX GM hmg
    refine' G.all_mk KX GM hmg ?z_range ?z_max ?z_min ?z_len ?a_law_source ?l_law_source ?c_law_source ?k_law_source ?z_sorted ?z_list ?a_law_next ?l_law_next ?c_law_next ?k_law_next ?a_law_mixed ?l_law_mixed ?c_law_mixed ?k_law_mixed ?z_tuple ?a_law_great_bells ?l_law_great_bells ?c_law_great_bells ?k_law_great_bells ?a_law_bells ?l_law_bells ?c_law_bells ?k_law_bells ?a_law_divisor ?l_law_divisor ?c_law_divisor ?k_law_divisor ?a_law_round_of ?l_law_round_of ?c_law_round_of ?k_law_round_of ?z_zip ?a_law_at ?l_law_at ?c_law_at ?k_law_at ?z_dict ?a_law_tally ?l_law_tally ?c_law_tally ?k_law_tally ?aC_Tower ?pg_Tower ?hd_Tower ?po_Tower ?sa_Tower ?n_Tower_own_periods ?b_Tower_periods ?pge_Tower_periods ?pta_Tower_periods ?pre_Tower_periods ?l_Tower_periods ?c_Tower_periods ?k_Tower_periods ?z_isinstance ?aC_BellError ?xg_BellError ?xk_BellError ?be_BellError ?hd_BellError ?kc2_BellError ?gs ?gt ?mo_BellError ?aC_InvalidTower ?xg_InvalidTower ?xk_InvalidTower ?be_InvalidTower ?hd_InvalidTower ?kc2_InvalidTower ?mo_InvalidTower ?aC_InvalidName ?xg_InvalidName ?xk_InvalidName ?be_InvalidName ?hd_InvalidName ?kc2_InvalidName ?mo_InvalidName ?aC_InvalidFirsts ?xg_InvalidFirsts ?xk_InvalidFirsts ?be_InvalidFirsts ?hd_InvalidFirsts ?kc2_InvalidFirsts ?mo_InvalidFirsts ?aC_InvalidNumber ?xg_InvalidNumber ?xk_InvalidNumber ?be_InvalidNumber ?hd_InvalidNumber ?kc2_InvalidNumber ?mo_InvalidNumber ?kc2_Tower ?mo_Tower ?aC_Song ?pg_Song ?hd_Song ?po_Song ?sa_Song ?kc2_Song ?mo_Song ?x_InvalidFirsts ?sa_InvalidFirsts ?tc_InvalidFirsts ?kc_InvalidFirsts ?b_InvalidFirsts___init ?l_InvalidFirsts___init ?c_InvalidFirsts___init ?k_InvalidFirsts___init ?tf_InvalidFirsts___init ?n_InvalidFirsts_index ?lT_InvalidFirsts___init ?z_enumerate ?z_int ?z_bool ?a_is_integer ?l_is_integer ?c_is_integer ?k_is_integer ?a_need_firsts ?l_need_firsts ?c_need_firsts ?k_need_firsts ?n_Song_own_tower ?n_Song_own_firsts ?a_pairs_of ?l_pairs_of ?c_pairs_of ?k_pairs_of ?a_place_of ?l_place_of ?c_place_of ?k_place_of ?a_divisor_of ?l_divisor_of ?c_divisor_of ?k_divisor_of ?a_places_of ?l_places_of ?c_places_of ?k_places_of ?n_Song_own_pattern ?n_Tower_own_names ?b_Tower_names ?pge_Tower_names ?pta_Tower_names ?pre_Tower_names ?l_Tower_names ?c_Tower_names ?k_Tower_names ?z_all ?n_Tower_own_round ?b_Tower_full_round ?pge_Tower_full_round ?pta_Tower_full_round ?pre_Tower_full_round ?l_Tower_full_round ?c_Tower_full_round ?k_Tower_full_round ?a_common_multiple ?l_common_multiple ?c_common_multiple ?k_common_multiple ?a_meeting_counts ?l_meeting_counts ?c_meeting_counts ?k_meeting_counts ?a_bit_count_of ?l_bit_count_of ?c_bit_count_of ?k_bit_count_of ?a_counts_of ?l_counts_of ?c_counts_of ?k_counts_of ?n_Song_own_chimes ?b_Song___init ?l_Song___init ?c_Song___init ?k_Song___init ?mk_Song ?kc_Song ?i_Song___init ?rd_Tower ?ga_Tower ?v_Tower_MAX_BELLS ?z_str ?g_LETTERS ?a_is_name ?l_is_name ?c_is_name ?k_is_name ?v_Tower_MAX_PERIOD ?a_is_bell ?l_is_bell ?c_is_bell ?k_is_bell ?a_tower_faults ?l_tower_faults ?c_tower_faults ?k_tower_faults ?x_InvalidTower ?sa_InvalidTower ?tc_InvalidTower ?kc_InvalidTower ?b_InvalidTower___init ?l_InvalidTower___init ?c_InvalidTower___init ?k_InvalidTower___init ?tf_InvalidTower___init ?n_InvalidTower_index ?lT_InvalidTower___init ?n_Tower_own_bells ?b_Tower___init ?l_Tower___init ?c_Tower___init ?k_Tower___init ?mk_Tower ?kc_Tower ?i_Tower___init ?a_law_sets ?l_law_sets ?c_law_sets ?k_law_sets ?z_repr ?b_Song_pattern ?pge_Song_pattern ?pta_Song_pattern ?pre_Song_pattern ?l_Song_pattern ?c_Song_pattern ?k_Song_pattern ?b_Tower___len ?l_Tower___len ?c_Tower___len ?k_Tower___len ?i_Tower___len ?b_Song_tower ?pge_Song_tower ?pta_Song_tower ?pre_Song_tower ?l_Song_tower ?c_Song_tower ?k_Song_tower ?a_do_meet ?l_do_meet ?c_do_meet ?k_do_meet ?a_is_chime ?l_is_chime ?c_is_chime ?k_is_chime ?x_InvalidName ?sa_InvalidName ?tc_InvalidName ?kc_InvalidName ?b_InvalidName___init ?l_InvalidName___init ?c_InvalidName___init ?k_InvalidName___init ?tf_InvalidName___init ?n_InvalidName_value ?a_members_of ?l_members_of ?c_members_of ?k_members_of ?a_meets ?l_meets ?c_meets ?k_meets ?a_law_small_right ?l_law_small_right ?c_law_small_right ?k_law_small_right ?a_law_row ?l_law_row ?c_law_row ?k_law_row ?a_law_great_right ?l_law_great_right ?c_law_great_right ?k_law_great_right ?a_law ?l_law ?c_law ?k_law
    (case z_range => k_is)
    (case z_max => k_is)
    (case z_min => k_is)
    (case z_len => k_is)
    (case a_law_source => k_is)
    (case l_law_source => k_is)
    (case c_law_source => k_is)
    (case k_law_source => k_is)
    (case z_sorted => k_is)
    (case z_list => k_is)
    (case a_law_next => k_is)
    (case l_law_next => k_is)
    (case c_law_next => k_is)
    (case k_law_next => k_is)
    (case a_law_mixed => k_is)
    (case l_law_mixed => k_is)
    (case c_law_mixed => k_is)
    (case k_law_mixed => k_is)
    (case z_tuple => k_is)
    (case a_law_great_bells => k_is)
    (case l_law_great_bells => k_is)
    (case c_law_great_bells => k_is)
    (case k_law_great_bells => k_is)
    (case a_law_bells => k_is)
    (case l_law_bells => k_is)
    (case c_law_bells => k_is)
    (case k_law_bells => k_is)
    (case a_law_divisor => k_is)
    (case l_law_divisor => k_is)
    (case c_law_divisor => k_is)
    (case k_law_divisor => k_is)
    (case a_law_round_of => k_is)
    (case l_law_round_of => k_is)
    (case c_law_round_of => k_is)
    (case k_law_round_of => k_is)
    (case z_zip => k_is)
    (case a_law_at => k_is)
    (case l_law_at => k_is)
    (case c_law_at => k_is)
    (case k_law_at => k_is)
    (case z_dict => k_is)
    (case a_law_tally => k_is)
    (case l_law_tally => k_is)
    (case c_law_tally => k_is)
    (case k_law_tally => k_is)
    (case aC_Tower => k_is)
    (case pg_Tower => k_is)
    (case hd_Tower => k_is)
    (case po_Tower => k_is)
    (case sa_Tower => k_is)
    (case n_Tower_own_periods => k_is)
    (case b_Tower_periods => k_is)
    (case pge_Tower_periods => k_is)
    (case pta_Tower_periods => k_is)
    (case pre_Tower_periods => k_is)
    (case l_Tower_periods => k_is)
    (case c_Tower_periods => k_is)
    (case k_Tower_periods => k_is)
    (case z_isinstance => k_is)
    (case aC_BellError => k_is)
    (case xg_BellError => k_is)
    (case xk_BellError => k_is)
    (case be_BellError => k_is)
    (case hd_BellError => k_is)
    (case kc2_BellError => k_is)
    (case gs => k_is)
    (case gt => k_is)
    (case mo_BellError => k_is)
    (case aC_InvalidTower => k_is)
    (case xg_InvalidTower => k_is)
    (case xk_InvalidTower => k_is)
    (case be_InvalidTower => k_is)
    (case hd_InvalidTower => k_is)
    (case kc2_InvalidTower => k_is)
    (case mo_InvalidTower => k_is)
    (case aC_InvalidName => k_is)
    (case xg_InvalidName => k_is)
    (case xk_InvalidName => k_is)
    (case be_InvalidName => k_is)
    (case hd_InvalidName => k_is)
    (case kc2_InvalidName => k_is)
    (case mo_InvalidName => k_is)
    (case aC_InvalidFirsts => k_is)
    (case xg_InvalidFirsts => k_is)
    (case xk_InvalidFirsts => k_is)
    (case be_InvalidFirsts => k_is)
    (case hd_InvalidFirsts => k_is)
    (case kc2_InvalidFirsts => k_is)
    (case mo_InvalidFirsts => k_is)
    (case aC_InvalidNumber => k_is)
    (case xg_InvalidNumber => k_is)
    (case xk_InvalidNumber => k_is)
    (case be_InvalidNumber => k_is)
    (case hd_InvalidNumber => k_is)
    (case kc2_InvalidNumber => k_is)
    (case mo_InvalidNumber => k_is)
    (case kc2_Tower => k_is)
    (case mo_Tower => k_is)
    (case aC_Song => k_is)
    (case pg_Song => k_is)
    (case hd_Song => k_is)
    (case po_Song => k_is)
    (case sa_Song => k_is)
    (case kc2_Song => k_is)
    (case mo_Song => k_is)
    (case x_InvalidFirsts => k_is)
    (case sa_InvalidFirsts => k_is)
    (case tc_InvalidFirsts => k_is)
    (case kc_InvalidFirsts => k_is)
    (case b_InvalidFirsts___init => k_is)
    (case l_InvalidFirsts___init => k_is)
    (case c_InvalidFirsts___init => k_is)
    (case k_InvalidFirsts___init => k_is)
    (case tf_InvalidFirsts___init => k_is)
    (case n_InvalidFirsts_index => k_is)
    (case lT_InvalidFirsts___init => k_is)
    (case z_enumerate => k_is)
    (case z_int => k_is)
    (case z_bool => k_is)
    (case a_is_integer => k_is)
    (case l_is_integer => k_is)
    (case c_is_integer => k_is)
    (case k_is_integer => k_is)
    (case a_need_firsts => k_is)
    (case l_need_firsts => k_is)
    (case c_need_firsts => k_is)
    (case k_need_firsts => k_is)
    (case n_Song_own_tower => k_is)
    (case n_Song_own_firsts => k_is)
    (case a_pairs_of => k_is)
    (case l_pairs_of => k_is)
    (case c_pairs_of => k_is)
    (case k_pairs_of => k_is)
    (case a_place_of => k_is)
    (case l_place_of => k_is)
    (case c_place_of => k_is)
    (case k_place_of => k_is)
    (case a_divisor_of => k_is)
    (case l_divisor_of => k_is)
    (case c_divisor_of => k_is)
    (case k_divisor_of => k_is)
    (case a_places_of => k_is)
    (case l_places_of => k_is)
    (case c_places_of => k_is)
    (case k_places_of => k_is)
    (case n_Song_own_pattern => k_is)
    (case n_Tower_own_names => k_is)
    (case b_Tower_names => k_is)
    (case pge_Tower_names => k_is)
    (case pta_Tower_names => k_is)
    (case pre_Tower_names => k_is)
    (case l_Tower_names => k_is)
    (case c_Tower_names => k_is)
    (case k_Tower_names => k_is)
    (case z_all => k_is)
    (case n_Tower_own_round => k_is)
    (case b_Tower_full_round => k_is)
    (case pge_Tower_full_round => k_is)
    (case pta_Tower_full_round => k_is)
    (case pre_Tower_full_round => k_is)
    (case l_Tower_full_round => k_is)
    (case c_Tower_full_round => k_is)
    (case k_Tower_full_round => k_is)
    (case a_common_multiple => k_is)
    (case l_common_multiple => k_is)
    (case c_common_multiple => k_is)
    (case k_common_multiple => k_is)
    (case a_meeting_counts => k_is)
    (case l_meeting_counts => k_is)
    (case c_meeting_counts => k_is)
    (case k_meeting_counts => k_is)
    (case a_bit_count_of => k_is)
    (case l_bit_count_of => k_is)
    (case c_bit_count_of => k_is)
    (case k_bit_count_of => k_is)
    (case a_counts_of => k_is)
    (case l_counts_of => k_is)
    (case c_counts_of => k_is)
    (case k_counts_of => k_is)
    (case n_Song_own_chimes => k_is)
    (case b_Song___init => k_is)
    (case l_Song___init => k_is)
    (case c_Song___init => k_is)
    (case k_Song___init => k_is)
    (case mk_Song => k_is)
    (case kc_Song => k_is)
    (case i_Song___init => k_is)
    (case rd_Tower => k_is)
    (case ga_Tower => k_is)
    (case v_Tower_MAX_BELLS => k_is)
    (case z_str => k_is)
    (case g_LETTERS => k_is)
    (case a_is_name => k_is)
    (case l_is_name => k_is)
    (case c_is_name => k_is)
    (case k_is_name => k_is)
    (case v_Tower_MAX_PERIOD => k_is)
    (case a_is_bell => k_is)
    (case l_is_bell => k_is)
    (case c_is_bell => k_is)
    (case k_is_bell => k_is)
    (case a_tower_faults => k_is)
    (case l_tower_faults => k_is)
    (case c_tower_faults => k_is)
    (case k_tower_faults => k_is)
    (case x_InvalidTower => k_is)
    (case sa_InvalidTower => k_is)
    (case tc_InvalidTower => k_is)
    (case kc_InvalidTower => k_is)
    (case b_InvalidTower___init => k_is)
    (case l_InvalidTower___init => k_is)
    (case c_InvalidTower___init => k_is)
    (case k_InvalidTower___init => k_is)
    (case tf_InvalidTower___init => k_is)
    (case n_InvalidTower_index => k_is)
    (case lT_InvalidTower___init => k_is)
    (case n_Tower_own_bells => k_is)
    (case b_Tower___init => k_is)
    (case l_Tower___init => k_is)
    (case c_Tower___init => k_is)
    (case k_Tower___init => k_is)
    (case mk_Tower => k_is)
    (case kc_Tower => k_is)
    (case i_Tower___init => k_is)
    (case a_law_sets => k_is)
    (case l_law_sets => k_is)
    (case c_law_sets => k_is)
    (case k_law_sets => k_is)
    (case z_repr => k_is)
    (case b_Song_pattern => k_is)
    (case pge_Song_pattern => k_is)
    (case pta_Song_pattern => k_is)
    (case pre_Song_pattern => k_is)
    (case l_Song_pattern => k_is)
    (case c_Song_pattern => k_is)
    (case k_Song_pattern => k_is)
    (case b_Tower___len => k_is)
    (case l_Tower___len => k_is)
    (case c_Tower___len => k_is)
    (case k_Tower___len => k_is)
    (case i_Tower___len => k_is)
    (case b_Song_tower => k_is)
    (case pge_Song_tower => k_is)
    (case pta_Song_tower => k_is)
    (case pre_Song_tower => k_is)
    (case l_Song_tower => k_is)
    (case c_Song_tower => k_is)
    (case k_Song_tower => k_is)
    (case a_do_meet => k_is)
    (case l_do_meet => k_is)
    (case c_do_meet => k_is)
    (case k_do_meet => k_is)
    (case a_is_chime => k_is)
    (case l_is_chime => k_is)
    (case c_is_chime => k_is)
    (case k_is_chime => k_is)
    (case x_InvalidName => k_is)
    (case sa_InvalidName => k_is)
    (case tc_InvalidName => k_is)
    (case kc_InvalidName => k_is)
    (case b_InvalidName___init => k_is)
    (case l_InvalidName___init => k_is)
    (case c_InvalidName___init => k_is)
    (case k_InvalidName___init => k_is)
    (case tf_InvalidName___init => k_is)
    (case n_InvalidName_value => k_is)
    (case a_members_of => k_is)
    (case l_members_of => k_is)
    (case c_members_of => k_is)
    (case k_members_of => k_is)
    (case a_meets => k_is)
    (case l_meets => k_is)
    (case c_meets => k_is)
    (case k_meets => k_is)
    (case a_law_small_right => k_is)
    (case l_law_small_right => k_is)
    (case c_law_small_right => k_is)
    (case k_law_small_right => k_is)
    (case a_law_row => k_is)
    (case l_law_row => k_is)
    (case c_law_row => k_is)
    (case k_law_row => k_is)
    (case a_law_great_right => k_is)
    (case l_law_great_right => k_is)
    (case c_law_great_right => k_is)
    (case k_law_great_right => k_is)
    (case a_law => k_is)
    (case l_law => k_is)
    (case c_law => k_is)
    (case k_law => k_is)
