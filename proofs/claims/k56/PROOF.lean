import PyProof.Rows.All
import Wide.All
import OpenK.AllK
import Wide.FinOn
import HandS.ForMost
import HandS.HeadHook4
import HandS.Head2
import KE.KeyNested
import HandS.Exc
import HandS.TryOnly
import HandS.ExcOwn
import HandS.CallSlots
import HandS.IsInst
import HandS.Deep
import HandS.Lambda
import KE.DataEq
import HandS.TupAny
import HandS.More
import HandS.NoneIn
import HandS.Wide
import HandS.Style
import HandS.Iter
import HandS.Conv
import HandS.WordsExc
import HandS.List
import HandS.Text
import HandS.Dict
import HandS.WordsDict
import HandS.TupLen
import KE.SortData
import PyProof.ListStr
import PyProof.ReprRoads
import HandS.Comp
import KE.GoesEnum
import KE.GoesZip
import HandS.Zip
import HandS.ClsMeth
import HandS.Property
import HandS.ExcInit
import HandS.Ends
import HandS.EndTab
import HandS.ExcField
import HandS.SetFor
import HandS.Strs
import HandS.OwnEq
import HandS.ExcIs
import PyProof.SliceStr2
import HandS.DictComp
import HandS.SetKeys
import HandS.Small
import KE.KOpsOwn
import HandS.TupMul
import HandS.TupLe
import KE.KDictPairs
import KE.KDictCopyH
import PyProof.DictFindH
import PyProof.DictRoadsH
import PyProof.ListMulAny
import PyProof.Rows.ListMulArg
import HandS.TryMany
import HandS.TupSets
import HandS.GenList
import HandS.Defaults
import HandS.RevRange
import PyProof.NeKinds
import KE.KDictList
import KE.KDictSum
import HandS.Star
import HandS.MethStar
import KE.KDictZip
import HandS.FStr
import KE.KxField
import PyProof.StrLawsRepr
import PyProof.Rows.RegStrFacts
import PySem.Challenge.RW_heardorder_k56_texts_read
set_option Elab.async false
set_option linter.all false
set_option maxRecDepth 100000
set_option maxHeartbeats 4000000
namespace DL
open PySem PySem.Spec PyProof.Rows L2
abbrev Kf : Type := PySem.W.Frag
structure FnF where
  at_ : Kf → Addr
  name : Str
  qual : Str
  st : Stmt
  dfl : Nat := 0
  kwo : List Str := []
def FnF.val (d : FnF) : He.FnW := some (d.name, d.qual, defArgs d.st, .stmts (defBody d.st), defScope d.st, mainGlobals, [], builtinsNs)
def fnF (K : Kf) (a : Addr) : He.FnW := match K.lookup a with
  | some ⟨_, _, .func fd, _⟩ => some (fd.name, fd.qualname, fd.params, fd.body, fd.scope, fd.globals, fd.closure, fd.builtins)
  | _ => none
def oneNone : List Value → Bool
  | [.none] => true
  | _ => false
theorem oneNone_ok {l : List Value} (h : oneNone l = true) : l = [.none] := by
  unfold oneNone at h
  split at h
  · rfl
  · cases h
def dflF (K : Kf) (dV : Value) : Nat → Bool
  | 0 => (match dV with
    | .none => true
    | _ => false)
  | _ => (match dV with
    | .ref T => (match K.lookup T with
      | some ⟨_, _, .seq its _, _⟩ => oneNone its.toList
      | _ => false)
    | _ => false)
def kwoF (K : Kf) (kV : Value) : List Str → Bool
  | [] => true
  | x :: _ => (match kV with
    | .ref D => He.eqO (PySem.W.nsIn K D x) (some (some .none))
    | _ => false)
def FnF.ok (K : Kf) (d : FnF) : Bool := PySem.W.keepIn K (.ref (d.at_ K)) && (match K.lookup (d.at_ K) with
  | some ⟨_, _, .func fd, _⟩ => PySem.W.codeIn K fd.code d.qual && (dflF K fd.defaults d.dfl && kwoF K fd.kwdefaults d.kwo)
  | _ => false)
theorem FnF.get {K : Kf} {d : FnF} (e : fnF K (d.at_ K) = d.val) (c : d.ok K = true) :
    ∃ (od : Option Addr) (sl : Array (Option Value)) (oc dV kV dc pm ct cd : Value) (an : Option Addr), PySem.W.keepIn K (.ref (d.at_ K)) = true ∧ K.lookup (d.at_ K) = some ⟨oc, od, .func (PySem.W.fnOf d.name d.qual (defArgs d.st) (defBody d.st) (defScope d.st) dV kV dc pm an cd ct), sl⟩ ∧
      PySem.W.codeIn K cd d.qual = true ∧ dflF K dV d.dfl = true ∧ kwoF K kV d.kwo = true := by
  obtain ⟨kp, c2⟩ := He.ba c
  unfold fnF at e
  cases q : K.lookup (d.at_ K) with
  | none => rw [q] at c2; cases c2
  | some o =>
    obtain ⟨oc, od, dt, osl⟩ := o
    rw [q] at c2 e
    cases dt with
    | func fd =>
      obtain ⟨n1, n2, n3, n4, n5, n6, n7, n8, n9, n10, n11, n12, n13, n14, n15⟩ := fd
      have e2 : (some (n1, n2, n3, n4, n5, n6, n7, n15) : He.FnW) = some (d.name, d.qual, defArgs d.st, .stmts (defBody d.st), defScope d.st, mainGlobals, [], builtinsNs) := e
      simp only [Option.some.injEq, Prod.mk.injEq] at e2
      obtain ⟨h1, h2, h3, h4, h5, h6, h7, h8⟩ := e2
      subst h1 h2 h3 h4 h5 h6 h7 h8
      obtain ⟨k1, k2⟩ := He.ba (show (PySem.W.codeIn K n13 d.qual && (dflF K n8 d.dfl && kwoF K n9 d.kwo)) = true from c2)
      obtain ⟨k3, k4⟩ := He.ba k2
      exact ⟨od, osl, oc, n8, n9, n10, n11, n14, n13, n12, kp, rfl, k1, k3, k4⟩
    | _ => cases c2
theorem dfl0 {K : Kf} {dV : Value} (h : dflF K dV 0 = true) : dV = .none := by
  cases dV with
  | none => rfl
  | _ => cases h
theorem dfl1 {K : Kf} {dV : Value} (h : dflF K dV 1 = true) : ∃ (T : Addr) (oT : Value) (dT : Option Addr) (nT : Nat) (sT : Array (Option Value)), dV = .ref T ∧ K.lookup T = some ⟨oT, dT, .seq #[.none] nT, sT⟩ := by
  cases dV with
  | ref T =>
    have h1 : (match K.lookup T with
      | some ⟨_, _, .seq its _, _⟩ => oneNone its.toList
      | _ => false) = true := h
    cases q : K.lookup T with
    | none => rw [q] at h1; cases h1
    | some o =>
      obtain ⟨oc, od, dt, osl⟩ := o
      rw [q] at h1
      cases dt with
      | seq its n =>
        obtain ⟨l⟩ := its
        have h2 : l = [.none] := oneNone_ok h1
        subst h2
        exact ⟨T, oc, od, n, osl, rfl, q⟩
      | _ => cases h1
  | _ => cases h
theorem FnF.get0 {K : Kf} {d : FnF} (hd : d.dfl = 0) (e : fnF K (d.at_ K) = d.val) (c : d.ok K = true) :
    ∃ (od : Option Addr) (sl : Array (Option Value)) (oc kV dc pm ct cd : Value) (an : Option Addr), PySem.W.keepIn K (.ref (d.at_ K)) = true ∧ K.lookup (d.at_ K) = some ⟨oc, od, .func (PySem.W.fnOf d.name d.qual (defArgs d.st) (defBody d.st) (defScope d.st) .none kV dc pm an cd ct), sl⟩ ∧
      PySem.W.codeIn K cd d.qual = true ∧ kwoF K kV d.kwo = true := by
  obtain ⟨od, sl, oc, dV, kV, dc, pm, ct, cd, an, h1, h2, h3, h4, h5⟩ := FnF.get e c
  rw [hd] at h4
  obtain rfl := dfl0 h4
  exact ⟨od, sl, oc, kV, dc, pm, ct, cd, an, h1, h2, h3, h5⟩
theorem FnF.plain {K : Kf} {at_ : Kf → Addr} {x q : Str} {st : Stmt} {ks : List Str} (e : fnF K (at_ K) = FnF.val ⟨at_, x, q, st, 0, ks⟩) (c : FnF.ok K ⟨at_, x, q, st, 0, ks⟩ = true) :
    ∃ (od : Option Addr) (sl : Array (Option Value)) (oc kV dc pm ct cd : Value) (an : Option Addr), PySem.W.keepIn K (.ref (at_ K)) = true ∧ K.lookup (at_ K) = some ⟨oc, od, .func (PySem.W.fnOf x q (defArgs st) (defBody st) (defScope st) .none kV dc pm an cd ct), sl⟩ ∧
      PySem.W.codeIn K cd q = true := by
  obtain ⟨od, sl, oc, kV, dc, pm, ct, cd, an, h1, h2, h3, _⟩ := FnF.get0 (d := ⟨at_, x, q, st, 0, ks⟩) rfl e c
  exact ⟨od, sl, oc, kV, dc, pm, ct, cd, an, h1, h2, h3⟩
theorem FnF.dnone {K : Kf} {at_ : Kf → Addr} {x q : Str} {st : Stmt} (e : fnF K (at_ K) = FnF.val ⟨at_, x, q, st, 1, []⟩) (c : FnF.ok K ⟨at_, x, q, st, 1, []⟩ = true) :
    ∃ (od : Option Addr) (sl : Array (Option Value)) (oc kV dc pm ct cd : Value) (an : Option Addr) (T : Addr) (oT : Value) (dT : Option Addr) (nT : Nat) (sT : Array (Option Value)), PySem.W.keepIn K (.ref (at_ K)) = true ∧ K.lookup (at_ K) = some ⟨oc, od, .func (PySem.W.fnOf x q (defArgs st) (defBody st) (defScope st) (.ref T) kV dc pm an cd ct), sl⟩ ∧
      PySem.W.codeIn K cd q = true ∧ K.lookup T = some ⟨oT, dT, .seq #[.none] nT, sT⟩ := by
  obtain ⟨od, sl, oc, dV, kV, dc, pm, ct, cd, an, h1, h2, h3, h4, h5⟩ := FnF.get (d := ⟨at_, x, q, st, 1, []⟩) e c
  obtain ⟨T, oT, dT, nT, sT, rfl, h6⟩ := dfl1 h4
  exact ⟨od, sl, oc, kV, dc, pm, ct, cd, an, T, oT, dT, nT, sT, h1, h2, h3, h6⟩
def codF (K : Kf) (a : Addr) : Addr := match K.lookup a with
  | some ⟨_, _, .func fd, _⟩ => (match fd.code with
    | .ref c => c
    | _ => 0)
  | _ => 0
def tabF (K : Kf) (c : Addr) : Addr := match K.lookup c with
  | some ⟨_, _, .fields vs, _⟩ => (match (vs[11]? : Option Value) with
    | some (.ref P) => P
    | _ => 0)
  | _ => 0
theorem codF_eq {K : Kf} {a : Addr} {x q : Str} {pa : Arguments} {bo : List Stmt} {sc : Scope} {od : Option Addr} {sl : Array (Option Value)} {oc dV kV dc pm ct cd : Value} {an : Option Addr}
    (h : K.lookup a = some ⟨oc, od, .func (PySem.W.fnOf x q pa bo sc dV kV dc pm an cd ct), sl⟩) (c : PySem.W.codeIn K cd q = true) : cd = .ref (codF K a) := by
  obtain ⟨c', rfl⟩ := He.codeIn_ref c
  unfold codF
  rw [h]
theorem tabF_ok {K : Kf} {c : Addr} (h : PySem.W.codeHdIn K c (tabF K c) = true) : ∃ (oo : Value) (dO : Option Addr) (vo : Array Value) (so : Array (Option Value)), K.lookup c = some ⟨oo, dO, .fields vo, so⟩ ∧ vo[11]? = some (.ref (tabF K c)) := by
  unfold PySem.W.codeHdIn at h
  split at h
  · rename_i vs sl e
    simp only [Bool.and_eq_true] at h
    obtain ⟨⟨⟨⟨⟨e1, _⟩, _⟩, _⟩, _⟩, _⟩ := h
    split at e1
    · rename_i P' h11
      have hP : P' = tabF K c := beq_iff_eq.mp e1
      refine ⟨_, _, _, _, e, ?_⟩
      rw [← hP]; exact h11
    · cases e1
  · cases h
def cintB (K : Kf) (C : Addr) (x : Str) (i : Int) : Bool := match PySem.W.findCls K (.ref C) (.type "type") x with
  | some (.val (.int j _)) => decide (j = i)
  | _ => false
theorem cintB_ok {K : Kf} {C : Addr} {x : Str} {i : Int} (h : cintB K C x i = true) : ∃ t : Tok, PySem.W.findCls K (.ref C) (.type "type") x = some (.val (.int i t)) := by
  unfold cintB at h
  split at h
  · rename_i j t e; rw [of_decide_eq_true h] at e; exact ⟨t, e⟩
  · cases h
def fintB (K : Kf) (C : Addr) (x : Str) (i : Int) : Bool := match PySem.W.findIn K (.ref C) x with
  | some (some (.int j _)) => decide (j = i)
  | _ => false
theorem fintB_ok {K : Kf} {C : Addr} {x : Str} {i : Int} (h : fintB K C x i = true) : ∃ t : Tok, PySem.W.findIn K (.ref C) x = some (some (.int i t)) := by
  unfold fintB at h
  split at h
  · rename_i j t e; rw [of_decide_eq_true h] at e; exact ⟨t, e⟩
  · cases h
def gstrB (K : Kf) (x z : Str) : Bool := match PySem.W.nsIn K mainGlobals x with
  | some (some (.str y _)) => decide (y = z)
  | _ => false
theorem gstrB_ok {K : Kf} {x z : Str} (h : gstrB K x z = true) : ∃ t : Tok, PySem.W.nsIn K mainGlobals x = some (some (.str z t)) := by
  unfold gstrB at h
  split at h
  · rename_i j t e; rw [of_decide_eq_true h] at e; exact ⟨t, e⟩
  · cases h
def recA (K : Kf) (p : Addr) (T : String) : Addr := match PySem.W.recIn K p T with
  | some (.ref f :: _) => f
  | _ => 0
def recB (K : Kf) (p : Addr) (T : String) : Bool := match PySem.W.recIn K p T with
  | some (.ref _ :: _) => true
  | _ => false
theorem recB_ok {K : Kf} {p : Addr} {T : String} (h : recB K p T = true) : ∃ r : List Value, PySem.W.recIn K p T = some (.ref (recA K p T) :: r) := by
  unfold recB at h
  unfold recA
  split at h
  · rename_i f r e; rw [e]; exact ⟨r, rfl⟩
  · cases h
def xclB (K : Kf) (C : Addr) (bm : List Value) (newId : String) : Bool := match K.lookup C with
  | some ⟨.type ty, _, .cls cd, sl⟩ => (match cd.mro, sl.toList with
    | .ref C' :: bm', [_, _, _, _, some (.builtin n), _] => decide (ty = "type") && (decide (C' = C) && (decide (bm' = bm) && (cd.hasDict && (!cd.hasDel && decide (n = newId)))))
    | _, _ => false)
  | _ => false
theorem xclB_ok {K : Kf} {C : Addr} {bm : List Value} {newId : String} (h : xclB K C bm newId = true) :
    ∃ (nm q : Str) (N : Addr) (bs su : List Value) (sn : List Str) (ab : Bool) (co : Option Bool) (dd : Option Addr) (m0 m1 m2 m3 m5 : Option Value), K.lookup C = some (excClassObj nm q C N bs bm true sn su ab co dd m0 m1 m2 m3 m5 newId) := by
  unfold xclB at h
  split at h
  · rename_i ty dd cd sl ho
    split at h
    · rename_i C' bm' k0 k1 k2 k3 n k5 hm hs
      simp only [Bool.and_eq_true, decide_eq_true_eq, Bool.not_eq_true'] at h
      obtain ⟨rfl, rfl, rfl, hh, hdel, rfl⟩ := h
      obtain ⟨nm, bs, mro, ns, qn, hd, sn, sub, ab, col, del⟩ := cd
      dsimp only at hm hdel hh
      subst hm hdel hh
      have hsl : sl = #[k0, k1, k2, k3, some (.builtin n), k5] := by
        obtain ⟨l⟩ := sl
        simp only at hs
        rw [hs]
      subst hsl
      exact ⟨nm, qn, ns, bs, sub, sn, ab, col, dd, k0, k1, k2, k3, k5, ho⟩
    · cases h
  · cases h
theorem of_and {a b : Bool} (h : (a && b) = true) : a = true ∧ b = true := Bool.and_eq_true_iff.mp h
theorem of_dec {p : Prop} [Decidable p] (h : decide p = true) : p := of_decide_eq_true h
abbrev AlF : Type := Bool × List He.FnW
def rngF : Nat → Nat → List Addr
  | _, 0 => []
  | a, m + 1 => a :: rngF (a + 1) m
def seeF (lo n : Nat) (g : Addr → Option Obj) : Kf := He.frT g (mainGlobals :: rngF lo (n - lo))
def obsK (fn : List FnF) (ex : Kf → Bool) (tb : Kf → List Addr) (g : Addr → Option Obj) (K : Kf) : AlF :=
  (ex K && (fn.all (fun d => d.ok K) && (tb K).all fun a => match g a with
    | some o => He.emptyTab o
    | none => false), fn.map fun d => fnF K (d.at_ K))
def obsF (lo n : Nat) (fn : List FnF) (ex : Kf → Bool) (tb : Kf → List Addr) (g : Addr → Option Obj) : AlF := obsK fn ex tb g (seeF lo n g)
def valF (fn : List FnF) : AlF := (true, fn.map FnF.val)
structure SaysF (fn : List FnF) (ex : Kf → Bool) (tb : Kf → List Addr) (h : Heap) (K : Kf) : Prop where
  ex : ex K = true
  ok : fn.all (fun d => d.ok K) = true
  val : fn.map (fun d => fnF K (d.at_ K)) = fn.map FnF.val
  out : ∀ a ∈ tb K, K.lookup a = none
  empty : ∀ a ∈ tb K, h.get? a = some { cls := .none, data := .fields #[] }
theorem saysF_of {lo n : Nat} {fn : List FnF} {ex : Kf → Bool} {tb : Kf → List Addr} {h : Heap} (e : obsF lo n fn ex tb h.get? = valF fn) : SaysF fn ex tb h (seeF lo n h.get?) := by
  obtain ⟨e1, e2⟩ := He.ba (congrArg (fun z : AlF => z.1) e)
  obtain ⟨e3, e4⟩ := He.ba e2
  have key : ∀ a ∈ tb (seeF lo n h.get?), ∃ o, h.get? a = some o ∧ He.emptyTab o = true := fun a ha => by
    have z := List.all_eq_true.mp e4 a ha
    cases q : h.get? a with
    | none => rw [q] at z; cases z
    | some o => rw [q] at z; exact ⟨o, rfl, z⟩
  exact ⟨e1, e3, congrArg (fun z : AlF => z.2) e, fun a ha => by
    obtain ⟨o, q, z⟩ := key a ha
    exact He.frT_none q z, fun a ha => by
    obtain ⟨o, q, z⟩ := key a ha
    rw [q, He.emptyTab_eq z]⟩
def hookF (lo : Nat) (fn : List FnF) (ex : Kf → Bool) (tb : Kf → List Addr) : PySem.W.Hook where
  α := AlF
  obs := fun s => obsF lo s.heap.objs.size fn ex tb s.heap.get?
  val := fun _ => valF fn
  says := fun _ h => ∃ K : Kf, K.In h ∧ SaysF fn ex tb h K
  of := fun _ _ e => ⟨_, He.frT_in, saysF_of e⟩
  keeps := fun _ _ _ ⟨K, hK, c⟩ k => ⟨K, PySem.W.Frag.In.keeps hK k, ⟨c.ex, c.ok, c.val, c.out, fun a ha => k _ _ (c.empty a ha)⟩⟩
def obF (lo : Nat) (fn : List FnF) (ex : Kf → Bool) (tb : Kf → List Addr) (s : PySem.W.SharedT) : AlF := obsF lo s.n fn ex tb (HandSHeadRun.getT s)
theorem obF_eq {lo : Nat} {fn : List FnF} {ex : Kf → Bool} {tb : Kf → List Addr} (s : PySem.W.SharedT) : obF lo fn ex tb s = (hookF lo fn ex tb).obs s.abs := by
  have e : HandSHeadRun.getT s = s.abs.heap.get? := funext (HandSHeadRun.getT_eq s)
  have e2 : s.abs.heap.objs.size = s.n := PySem.W.absHeap_size s.tree s.n _
  show obsF lo s.n fn ex tb (HandSHeadRun.getT s) = obsF lo s.abs.heap.objs.size fn ex tb s.abs.heap.get?
  rw [e, e2]
theorem map_two {α β γ : Type} {o : Option α} {f : α → β} {g : α → γ} {a : β} {c : γ} (h1 : o.map f = some a) (h2 : o.map g = some c) : o.map (fun s => (f s, g s)) = some (a, c) := by
  cases o with
  | none => cases h1
  | some s =>
    have e1 : f s = a := Option.some.inj h1
    have e2 : g s = c := Option.some.inj h2
    show some (f s, g s) = some (a, c)
    rw [e1, e2]
theorem run_of {r : PySem.W.OpenRow} {q : Program} {lo : Nat} {fn : List FnF} {ex : Kf → Bool} {tb : Kf → List Addr} {M : Nat} {loose : List Str} {w : World}
    (h1 : ∀ os : OsState, (HandSHeadRun.endF (HandSHeadRun.stepQ (HandSHeadRun.denQ HandSHeadRun.tabQ) r.prog w) M r.prog w os).map (fun s => (HandSHeadRun.looksF r.prog (PySem.W.boot_heap w.params) s.abs, HandSHeadRun.seenQ q loose (importedModules r.prog.main.body) (fun s => PySem.W.xlAt q [] s && PySem.W.recOk r.toRowW.records s) s.abs)) = some (true, PySem.W.openGood q loose))
    (h2 : ∀ os : OsState, (HandSHeadRun.endF (HandSHeadRun.stepQ (HandSHeadRun.denQ HandSHeadRun.tabQ) r.prog w) M r.prog w os).map (fun s => (obF lo fn ex tb s).1) = some true)
    (h3 : ∀ os : OsState, (HandSHeadRun.endF (HandSHeadRun.stepQ (HandSHeadRun.denQ HandSHeadRun.tabQ) r.prog w) M r.prog w os).map (fun s => (obF lo fn ex tb s).2) = some (fn.map FnF.val)) :
    HandSHeadRun.RunEq r q (hookF lo fn ex tb) (obF lo fn ex tb) M loose w := by
  intro os
  have a := map_two (h1 os) (map_two (h2 os) (h3 os))
  generalize HandSHeadRun.endF (HandSHeadRun.stepQ (HandSHeadRun.denQ HandSHeadRun.tabQ) r.prog w) M r.prog w os = E at a ⊢
  cases E with
  | none => cases a
  | some s =>
    have e := Option.some.inj a
    injection e with e1 e2
    injection e1 with e3 e4
    show some (_, _, _) = some (_, _, _)
    rw [e3, e4]
    exact congrArg (fun z => some (true, PySem.W.openGood q loose, z)) e2
theorem fn_cons {K : Kf} {d : FnF} {fn : List FnF} (ok : (d :: fn).all (fun d => d.ok K) = true) (val : (d :: fn).map (fun d => fnF K (d.at_ K)) = (d :: fn).map FnF.val) :
    (d.ok K = true ∧ fnF K (d.at_ K) = d.val) ∧ fn.all (fun d => d.ok K) = true ∧ fn.map (fun d => fnF K (d.at_ K)) = fn.map FnF.val := by
  rw [List.all_cons] at ok
  rw [List.map_cons, List.map_cons] at val
  injection val with v1 v2
  obtain ⟨o1, o2⟩ := He.ba ok
  exact ⟨⟨o1, v1⟩, o2, v2⟩
end DL
namespace G
open PySem PySem.Spec PyProof.Rows L2 DL
def top (i : Nat) : Stmt := PySem.Challenge.pw_heardorder_k56_texts_read.main.body.getD i (.Pass ⟨0, 0, 0, 0⟩)
abbrev s_law_source : Stmt := (top 25)
abbrev s_law_next : Stmt := (top 26)
abbrev s_law_mixed : Stmt := (top 27)
abbrev s_law_great_bells : Stmt := (top 34)
abbrev s_law_bells : Stmt := (top 28)
abbrev s_law_at : Stmt := (top 30)
abbrev s_law_timed : Stmt := (top 31)
abbrev s_law_chimes : Stmt := (top 32)
abbrev s_law_row : Stmt := (top 29)
abbrev s_is_name : Stmt := (top 11)
abbrev s_is_integer : Stmt := (top 10)
abbrev s_is_bell : Stmt := (top 13)
abbrev s_tower_faults : Stmt := (top 14)
abbrev s_common_multiple : Stmt := (top 15)
abbrev s_Tower___init : Stmt := (inClass (top 16) 3)
abbrev s_is_chime : Stmt := (top 12)
abbrev s_Tower_check_heard : Stmt := (inClass (top 16) 20)
abbrev s_heard_text : Stmt := (top 19)
abbrev s_Tower_bells : Stmt := (inClass (top 16) 7)
abbrev s_tower_text : Stmt := (top 18)
abbrev s_law_bent_page : Stmt := (top 37)
abbrev s_law_tower_read : Stmt := (top 35)
abbrev s_law_read_told : Stmt := (top 38)
abbrev s_need_text : Stmt := (top 20)
abbrev s_is_period : Stmt := (top 21)
abbrev s_read_tower : Stmt := (top 22)
abbrev s_Tower_names : Stmt := (inClass (top 16) 8)
abbrev s_read_heard : Stmt := (top 23)
abbrev s_law_sets : Stmt := (top 33)
abbrev s_law_heard_read : Stmt := (top 36)
abbrev s_law : Stmt := (top 39)
abbrev s_InvalidTower___init : Stmt := (inClass (top 3) 0)
abbrev s_InvalidHeard___init : Stmt := (inClass (top 5) 0)
abbrev s_ParseError___init : Stmt := (inClass (top 7) 0)
def ex_0 (K : Kf) : Bool :=
  (decide (PySem.W.nsIn K mainGlobals "range" = some none)) && (
  (decide (PySem.W.nsIn K mainGlobals "max" = some none)) && (
  (decide (PySem.W.nsIn K mainGlobals "min" = some none)) && (
  (decide (PySem.W.nsIn K mainGlobals "len" = some none)) && (
  (decide (PySem.W.nsIn K mainGlobals "_law_source" = some (some (.ref (He.ga K "_law_source"))))) && (
  (decide (PySem.W.nsIn K mainGlobals "sorted" = some none)) && (
  (decide (PySem.W.nsIn K mainGlobals "list" = some none)) && (
  (decide (PySem.W.nsIn K mainGlobals "_law_next" = some (some (.ref (He.ga K "_law_next"))))) && (
  (decide (PySem.W.nsIn K mainGlobals "_law_mixed" = some (some (.ref (He.ga K "_law_mixed"))))) && (
  (decide (PySem.W.nsIn K mainGlobals "tuple" = some none)) && (
  (decide (PySem.W.nsIn K mainGlobals "_law_great_bells" = some (some (.ref (He.ga K "_law_great_bells"))))) && (
  (decide (PySem.W.nsIn K mainGlobals "_law_bells" = some (some (.ref (He.ga K "_law_bells"))))) && (
  (decide (PySem.W.nsIn K mainGlobals "zip" = some none)) && (
  (decide (PySem.W.nsIn K mainGlobals "_law_at" = some (some (.ref (He.ga K "_law_at"))))) && (
  (decide (PySem.W.nsIn K mainGlobals "_law_timed" = some (some (.ref (He.ga K "_law_timed"))))) && (
  (decide (PySem.W.nsIn K mainGlobals "_law_chimes" = some (some (.ref (He.ga K "_law_chimes"))))) && (
  (decide (PySem.W.nsIn K mainGlobals "_law_row" = some (some (.ref (He.ga K "_law_row"))))) && (
  (decide (PySem.W.nsIn K mainGlobals "isinstance" = some none)) && (
  (decide (PySem.W.nsIn K mainGlobals "BellError" = some (some (.ref (He.ga K "BellError"))))) && (
  (decide (PySem.W.findIn K (.ref (He.ga K "BellError")) "__getattribute__" = some (some (.builtin "BaseException.__getattribute__")))) && (
  (decide (PySem.W.findIn K (.ref (He.ga K "BellError")) "__getattr__" = some none)) && (
  (decide (PySem.W.subIn K (.ref (He.ga K "BellError")) (.type "BaseException") = some true)) && (
  (PySem.W.hasDictIn K (He.ga K "BellError")) && (
  (decide (PySem.W.findIn K (.ref (He.ga K "BellError")) "__class__" = some (some (.builtin "object.__class__")))) && (
  (decide (PySem.W.specialIn K (.builtin "object.__class__") "__get__" = some (some (.builtin "getset_descriptor.__get__")))) && (
  (decide (PySem.W.takesIn K (.builtin "object.__class__") = some true)) && (
  (decide (PySem.W.mroIn K (He.ga K "BellError") (.type "object") = some true)) && (
  (decide (PySem.W.nsIn K mainGlobals "InvalidTower" = some (some (.ref (He.ga K "InvalidTower"))))) && (
  (decide (PySem.W.findIn K (.ref (He.ga K "InvalidTower")) "__getattribute__" = some (some (.builtin "BaseException.__getattribute__")))) && (
  (decide (PySem.W.findIn K (.ref (He.ga K "InvalidTower")) "__getattr__" = some none)) && (
  (decide (PySem.W.subIn K (.ref (He.ga K "InvalidTower")) (.type "BaseException") = some true)) && (
  (PySem.W.hasDictIn K (He.ga K "InvalidTower")) && (true))))))))))))))))))))))))))))))))
def ex_1 (K : Kf) : Bool :=
  (decide (PySem.W.findIn K (.ref (He.ga K "InvalidTower")) "__class__" = some (some (.builtin "object.__class__")))) && (
  (decide (PySem.W.mroIn K (He.ga K "InvalidTower") (.type "object") = some true)) && (
  (decide (PySem.W.nsIn K mainGlobals "InvalidName" = some (some (.ref (He.ga K "InvalidName"))))) && (
  (decide (PySem.W.findIn K (.ref (He.ga K "InvalidName")) "__getattribute__" = some (some (.builtin "BaseException.__getattribute__")))) && (
  (decide (PySem.W.findIn K (.ref (He.ga K "InvalidName")) "__getattr__" = some none)) && (
  (decide (PySem.W.subIn K (.ref (He.ga K "InvalidName")) (.type "BaseException") = some true)) && (
  (PySem.W.hasDictIn K (He.ga K "InvalidName")) && (
  (decide (PySem.W.findIn K (.ref (He.ga K "InvalidName")) "__class__" = some (some (.builtin "object.__class__")))) && (
  (decide (PySem.W.mroIn K (He.ga K "InvalidName") (.type "object") = some true)) && (
  (decide (PySem.W.nsIn K mainGlobals "InvalidHeard" = some (some (.ref (He.ga K "InvalidHeard"))))) && (
  (decide (PySem.W.findIn K (.ref (He.ga K "InvalidHeard")) "__getattribute__" = some (some (.builtin "BaseException.__getattribute__")))) && (
  (decide (PySem.W.findIn K (.ref (He.ga K "InvalidHeard")) "__getattr__" = some none)) && (
  (decide (PySem.W.subIn K (.ref (He.ga K "InvalidHeard")) (.type "BaseException") = some true)) && (
  (PySem.W.hasDictIn K (He.ga K "InvalidHeard")) && (
  (decide (PySem.W.findIn K (.ref (He.ga K "InvalidHeard")) "__class__" = some (some (.builtin "object.__class__")))) && (
  (decide (PySem.W.mroIn K (He.ga K "InvalidHeard") (.type "object") = some true)) && (
  (decide (PySem.W.nsIn K mainGlobals "InvalidNumber" = some (some (.ref (He.ga K "InvalidNumber"))))) && (
  (decide (PySem.W.findIn K (.ref (He.ga K "InvalidNumber")) "__getattribute__" = some (some (.builtin "BaseException.__getattribute__")))) && (
  (decide (PySem.W.findIn K (.ref (He.ga K "InvalidNumber")) "__getattr__" = some none)) && (
  (decide (PySem.W.subIn K (.ref (He.ga K "InvalidNumber")) (.type "BaseException") = some true)) && (
  (PySem.W.hasDictIn K (He.ga K "InvalidNumber")) && (
  (decide (PySem.W.findIn K (.ref (He.ga K "InvalidNumber")) "__class__" = some (some (.builtin "object.__class__")))) && (
  (decide (PySem.W.mroIn K (He.ga K "InvalidNumber") (.type "object") = some true)) && (
  (decide (PySem.W.nsIn K mainGlobals "ParseError" = some (some (.ref (He.ga K "ParseError"))))) && (
  (decide (PySem.W.findIn K (.ref (He.ga K "ParseError")) "__getattribute__" = some (some (.builtin "BaseException.__getattribute__")))) && (
  (decide (PySem.W.findIn K (.ref (He.ga K "ParseError")) "__getattr__" = some none)) && (
  (decide (PySem.W.subIn K (.ref (He.ga K "ParseError")) (.type "BaseException") = some true)) && (
  (PySem.W.hasDictIn K (He.ga K "ParseError")) && (
  (decide (PySem.W.findIn K (.ref (He.ga K "ParseError")) "__class__" = some (some (.builtin "object.__class__")))) && (
  (decide (PySem.W.mroIn K (He.ga K "ParseError") (.type "object") = some true)) && (
  (decide (PySem.W.nsIn K mainGlobals "Tower" = some (some (.ref (He.ga K "Tower"))))) && (
  (PySem.W.plainGet K (He.ga K "Tower") Str.empty) && (true))))))))))))))))))))))))))))))))
def ex_2 (K : Kf) : Bool :=
  (PySem.W.hasDictIn K (He.ga K "Tower")) && (
  (PySem.W.plainOver K (He.ga K "Tower")) && (
  (decide (PySem.W.findIn K (.ref (He.ga K "Tower")) "__setattr__" = some (some (.builtin "object.__setattr__")))) && (
  (decide (PySem.W.findIn K (.ref (He.ga K "Tower")) "__class__" = some (some (.builtin "object.__class__")))) && (
  (decide (PySem.W.mroIn K (He.ga K "Tower") (.type "object") = some true)) && (
  (PySem.W.readsIn K (He.ga K "Tower") (.type "type")) && (
  (decide (PySem.W.specialIn K (.ref (He.ga K "Tower")) "__getattribute__" = some (some (.builtin "type.__getattribute__")))) && (
  (cintB K (He.ga K "Tower") "MAX_BELLS" 5) && (
  (decide (PySem.W.nsIn K mainGlobals "enumerate" = some none)) && (
  (decide (PySem.W.nsIn K mainGlobals "str" = some none)) && (
  (gstrB K "LETTERS" "abcdefghijklmnopqrstuvwxyz") && (
  (decide (PySem.W.nsIn K mainGlobals "is_name" = some (some (.ref (He.ga K "is_name"))))) && (
  (decide (PySem.W.nsIn K mainGlobals "int" = some none)) && (
  (decide (PySem.W.nsIn K mainGlobals "bool" = some none)) && (
  (decide (PySem.W.nsIn K mainGlobals "is_integer" = some (some (.ref (He.ga K "is_integer"))))) && (
  (cintB K (He.ga K "Tower") "MAX_PERIOD" 30) && (
  (decide (PySem.W.nsIn K mainGlobals "is_bell" = some (some (.ref (He.ga K "is_bell"))))) && (
  (decide (PySem.W.nsIn K mainGlobals "tower_faults" = some (some (.ref (He.ga K "tower_faults"))))) && (
  (xclB K (He.ga K "InvalidTower") [.ref (He.ga K "BellError"), .type "ValueError", .type "Exception", .type "BaseException", .type "object"] "ValueError.__new__") && (
  (decide (PySem.W.findIn K (.ref (He.ga K "InvalidTower")) "__setattr__" = some (some (.builtin "object.__setattr__")))) && (
  (decide (PySem.W.typeIn K (.ref (He.ga K "InvalidTower")) = some (.type "type"))) && (
  (PySem.W.keepIn K (.ref (He.ga K "InvalidTower"))) && (
  (decide (PySem.W.findIn K (.ref (He.ga K "InvalidTower")) "__init__" = some (some (.ref (He.ma K (He.ga K "InvalidTower") "__init__"))))) && (
  (decide (PySem.W.typeIn K (.ref (He.ma K (He.ga K "InvalidTower") "__init__")) = some (.type "function"))) && (
  (decide (PySem.W.findIn K (.ref (He.ga K "InvalidTower")) "index" = some none)) && (
  (decide (PySem.W.findIn K (.ref (He.ga K "Tower")) "own_bells" = some none)) && (
  (decide (PySem.W.findIn K (.ref (He.ga K "Tower")) "own_names" = some none)) && (
  (decide (PySem.W.findIn K (.ref (He.ga K "Tower")) "own_periods" = some none)) && (
  (decide (PySem.W.nsIn K mainGlobals "common_multiple" = some (some (.ref (He.ga K "common_multiple"))))) && (
  (decide (PySem.W.findIn K (.ref (He.ga K "Tower")) "own_round" = some none)) && (
  (decide (PySem.W.findIn K (.ref (He.ga K "Tower")) "__init__" = some (some (.ref (He.ma K (He.ga K "Tower") "__init__"))))) && (
  (PySem.W.makesIn K (He.ga K "Tower")) && (true))))))))))))))))))))))))))))))))
def ex_3 (K : Kf) : Bool :=
  (PySem.W.keepIn K (.ref (He.ga K "Tower"))) && (
  (PySem.W.isFn K (.ref (He.ma K (He.ga K "Tower") "__init__"))) && (
  (fintB K (He.ga K "Tower") "MAX_HEARD" 200) && (
  (xclB K (He.ga K "InvalidHeard") [.ref (He.ga K "BellError"), .type "ValueError", .type "Exception", .type "BaseException", .type "object"] "ValueError.__new__") && (
  (decide (PySem.W.findIn K (.ref (He.ga K "InvalidHeard")) "__setattr__" = some (some (.builtin "object.__setattr__")))) && (
  (decide (PySem.W.typeIn K (.ref (He.ga K "InvalidHeard")) = some (.type "type"))) && (
  (PySem.W.keepIn K (.ref (He.ga K "InvalidHeard"))) && (
  (decide (PySem.W.findIn K (.ref (He.ga K "InvalidHeard")) "__init__" = some (some (.ref (He.ma K (He.ga K "InvalidHeard") "__init__"))))) && (
  (decide (PySem.W.typeIn K (.ref (He.ma K (He.ga K "InvalidHeard") "__init__")) = some (.type "function"))) && (
  (decide (PySem.W.findIn K (.ref (He.ga K "InvalidHeard")) "index" = some none)) && (
  (decide (PySem.W.nsIn K mainGlobals "is_chime" = some (some (.ref (He.ga K "is_chime"))))) && (
  (decide (PySem.W.findIn K (.ref (He.ga K "Tower")) "check_heard" = some (some (.ref (He.ma K (He.ga K "Tower") "check_heard"))))) && (
  (PySem.W.isFn K (.ref (He.ma K (He.ga K "Tower") "check_heard"))) && (
  (decide (PySem.W.nsIn K mainGlobals "heard_text" = some (some (.ref (He.ga K "heard_text"))))) && (
  (decide (PySem.W.findIn K (.ref (He.ga K "Tower")) "bells" = some (some (.ref (He.ma K (He.ga K "Tower") "bells"))))) && (
  (decide (PySem.W.specialIn K (.ref (He.ma K (He.ga K "Tower") "bells")) "__get__" = some (some (.builtin "property.__get__")))) && (
  (decide (PySem.W.takesIn K (.ref (He.ma K (He.ga K "Tower") "bells")) = some true)) && (
  (recB K (He.ma K (He.ga K "Tower") "bells") "property") && (
  (decide (PySem.W.nsIn K mainGlobals "tower_text" = some (some (.ref (He.ga K "tower_text"))))) && (
  (decide (PySem.W.nsIn K mainGlobals "_law_bent_page" = some (some (.ref (He.ga K "_law_bent_page"))))) && (
  (decide (PySem.W.nsIn K mainGlobals "_law_tower_read" = some (some (.ref (He.ga K "_law_tower_read"))))) && (
  (PySem.W.isClsIn K (He.ga K "ParseError")) && (
  (decide (PySem.W.typeIn K (.ref (He.ga K "ParseError")) = some (.type "type"))) && (
  (decide (PySem.W.subIn K (.ref (He.ga K "BellError")) (.ref (He.ga K "ParseError")) = some false)) && (
  (decide (PySem.W.subIn K (.ref (He.ga K "InvalidTower")) (.ref (He.ga K "ParseError")) = some false)) && (
  (decide (PySem.W.subIn K (.ref (He.ga K "InvalidName")) (.ref (He.ga K "ParseError")) = some false)) && (
  (decide (PySem.W.subIn K (.ref (He.ga K "InvalidHeard")) (.ref (He.ga K "ParseError")) = some false)) && (
  (decide (PySem.W.subIn K (.ref (He.ga K "InvalidNumber")) (.ref (He.ga K "ParseError")) = some false)) && (
  (decide (PySem.W.subIn K (.ref (He.ga K "ParseError")) (.ref (He.ga K "ParseError")) = some true)) && (
  (decide (PySem.W.findIn K (.ref (He.ga K "ParseError")) "word" = some none)) && (
  (decide (PySem.W.findIn K (.ref (He.ga K "ParseError")) "line" = some none)) && (
  (decide (PySem.W.nsIn K mainGlobals "_law_read_told" = some (some (.ref (He.ga K "_law_read_told"))))) && (true))))))))))))))))))))))))))))))))
def ex_4 (K : Kf) : Bool :=
  (xclB K (He.ga K "ParseError") [.ref (He.ga K "BellError"), .type "ValueError", .type "Exception", .type "BaseException", .type "object"] "ValueError.__new__") && (
  (decide (PySem.W.findIn K (.ref (He.ga K "ParseError")) "__setattr__" = some (some (.builtin "object.__setattr__")))) && (
  (PySem.W.keepIn K (.ref (He.ga K "ParseError"))) && (
  (decide (PySem.W.findIn K (.ref (He.ga K "ParseError")) "__init__" = some (some (.ref (He.ma K (He.ga K "ParseError") "__init__"))))) && (
  (decide (PySem.W.typeIn K (.ref (He.ma K (He.ga K "ParseError") "__init__")) = some (.type "function"))) && (
  (decide (PySem.W.nsIn K mainGlobals "need_text" = some (some (.ref (He.ga K "need_text"))))) && (
  (decide (PySem.W.nsIn K mainGlobals "is_period" = some (some (.ref (He.ga K "is_period"))))) && (
  (decide (PySem.W.nsIn K mainGlobals "read_tower" = some (some (.ref (He.ga K "read_tower"))))) && (
  (decide (PySem.W.nsIn K mainGlobals "repr" = some none)) && (
  (decide (PySem.W.findIn K (.ref (He.ga K "Tower")) "names" = some (some (.ref (He.ma K (He.ga K "Tower") "names"))))) && (
  (decide (PySem.W.specialIn K (.ref (He.ma K (He.ga K "Tower") "names")) "__get__" = some (some (.builtin "property.__get__")))) && (
  (decide (PySem.W.takesIn K (.ref (He.ma K (He.ga K "Tower") "names")) = some true)) && (
  (recB K (He.ma K (He.ga K "Tower") "names") "property") && (
  (decide (PySem.W.nsIn K mainGlobals "read_heard" = some (some (.ref (He.ga K "read_heard"))))) && (
  (decide (PySem.W.nsIn K mainGlobals "_law_sets" = some (some (.ref (He.ga K "_law_sets"))))) && (
  (decide (PySem.W.nsIn K mainGlobals "_law_heard_read" = some (some (.ref (He.ga K "_law_heard_read"))))) && (
  (decide (PySem.W.nsIn K mainGlobals "law" = some (some (.ref (He.ga K "law"))))) && (
  (PySem.W.codeHdIn K (codF K (He.ga K "law")) (tabF K (codF K (He.ga K "law")))) && (true))))))))))))))))))
def exB (K : Kf) : Bool := ex_0 K && (ex_1 K && (ex_2 K && (ex_3 K && (ex_4 K && true))))
def tbL (K : Kf) : List Addr := [(tabF K (codF K (He.ga K "law")))]
def fl_0 : List FnF → List FnF := fun r =>
  ⟨fun K => (He.ga K "_law_source"), "_law_source", "_law_source", s_law_source, 0, []⟩ ::
  ⟨fun K => (He.ga K "_law_next"), "_law_next", "_law_next", s_law_next, 0, []⟩ ::
  ⟨fun K => (He.ga K "_law_mixed"), "_law_mixed", "_law_mixed", s_law_mixed, 0, []⟩ ::
  ⟨fun K => (He.ga K "_law_great_bells"), "_law_great_bells", "_law_great_bells", s_law_great_bells, 0, []⟩ ::
  ⟨fun K => (He.ga K "_law_bells"), "_law_bells", "_law_bells", s_law_bells, 0, []⟩ ::
  ⟨fun K => (He.ga K "_law_at"), "_law_at", "_law_at", s_law_at, 0, []⟩ ::
  ⟨fun K => (He.ga K "_law_timed"), "_law_timed", "_law_timed", s_law_timed, 0, []⟩ ::
  ⟨fun K => (He.ga K "_law_chimes"), "_law_chimes", "_law_chimes", s_law_chimes, 0, []⟩ ::
  ⟨fun K => (He.ga K "_law_row"), "_law_row", "_law_row", s_law_row, 0, []⟩ ::
  ⟨fun K => (He.ga K "is_name"), "is_name", "is_name", s_is_name, 0, []⟩ ::
  ⟨fun K => (He.ga K "is_integer"), "is_integer", "is_integer", s_is_integer, 0, []⟩ ::
  ⟨fun K => (He.ga K "is_bell"), "is_bell", "is_bell", s_is_bell, 0, []⟩ ::
  ⟨fun K => (He.ga K "tower_faults"), "tower_faults", "tower_faults", s_tower_faults, 0, []⟩ ::
  ⟨fun K => (He.ma K (He.ga K "InvalidTower") "__init__"), "__init__", "InvalidTower.__init__", s_InvalidTower___init, 1, []⟩ ::
  ⟨fun K => (He.ga K "common_multiple"), "common_multiple", "common_multiple", s_common_multiple, 0, []⟩ ::
  ⟨fun K => (He.ma K (He.ga K "Tower") "__init__"), "__init__", "Tower.__init__", s_Tower___init, 0, []⟩ ::
  ⟨fun K => (He.ma K (He.ga K "InvalidHeard") "__init__"), "__init__", "InvalidHeard.__init__", s_InvalidHeard___init, 1, []⟩ ::
  ⟨fun K => (He.ga K "is_chime"), "is_chime", "is_chime", s_is_chime, 0, []⟩ ::
  ⟨fun K => (He.ma K (He.ga K "Tower") "check_heard"), "check_heard", "Tower.check_heard", s_Tower_check_heard, 0, []⟩ ::
  ⟨fun K => (He.ga K "heard_text"), "heard_text", "heard_text", s_heard_text, 0, []⟩ ::
  ⟨fun K => (recA K (He.ma K (He.ga K "Tower") "bells") "property"), "bells", "Tower.bells", s_Tower_bells, 0, []⟩ ::
  ⟨fun K => (He.ga K "tower_text"), "tower_text", "tower_text", s_tower_text, 0, []⟩ ::
  ⟨fun K => (He.ga K "_law_bent_page"), "_law_bent_page", "_law_bent_page", s_law_bent_page, 0, []⟩ ::
  ⟨fun K => (He.ga K "_law_tower_read"), "_law_tower_read", "_law_tower_read", s_law_tower_read, 0, []⟩ :: r
def fl_1 : List FnF → List FnF := fun r =>
  ⟨fun K => (He.ga K "_law_read_told"), "_law_read_told", "_law_read_told", s_law_read_told, 0, []⟩ ::
  ⟨fun K => (He.ma K (He.ga K "ParseError") "__init__"), "__init__", "ParseError.__init__", s_ParseError___init, 0, []⟩ ::
  ⟨fun K => (He.ga K "need_text"), "need_text", "need_text", s_need_text, 0, []⟩ ::
  ⟨fun K => (He.ga K "is_period"), "is_period", "is_period", s_is_period, 0, []⟩ ::
  ⟨fun K => (He.ga K "read_tower"), "read_tower", "read_tower", s_read_tower, 0, []⟩ ::
  ⟨fun K => (recA K (He.ma K (He.ga K "Tower") "names") "property"), "names", "Tower.names", s_Tower_names, 0, []⟩ ::
  ⟨fun K => (He.ga K "read_heard"), "read_heard", "read_heard", s_read_heard, 0, []⟩ ::
  ⟨fun K => (He.ga K "_law_sets"), "_law_sets", "_law_sets", s_law_sets, 0, []⟩ ::
  ⟨fun K => (He.ga K "_law_heard_read"), "_law_heard_read", "_law_heard_read", s_law_heard_read, 0, []⟩ ::
  ⟨fun K => (He.ga K "law"), "law", "law", s_law, 0, []⟩ :: r
def fnL : List FnF := fl_0 (fl_1 ([]))
abbrev RR : PySem.W.OpenRow := PySem.W.OpenLaw.row PySem.Challenge.rw_heardorder_k56_texts_read
def nm_0 : List Str := ["_wall", "__name__", "BellError", "InvalidTower", "InvalidName", "InvalidHeard", "InvalidNumber", "ParseError", "LETTERS", "is_integer", "is_name", "is_chime", "is_bell", "tower_faults", "common_multiple", "Tower", "tower_text", "heard_text", "need_text", "is_period", "read_tower", "read_heard", "_law_source", "_law_next", "_law_mixed", "_law_bells", "_law_row", "_law_at", "_law_timed", "_law_chimes"]
def nm_1 : List Str := ["_law_sets", "_law_great_bells", "_law_tower_read", "_law_heard_read", "_law_bent_page", "_law_read_told"]
def names : List Str := nm_0 ++ (nm_1)
abbrev qv : Program := PySem.W.view RR.prog [39]
abbrev hk : PySem.W.Hook := hookF 0 fnL exB tbL
abbrev obh : PySem.W.SharedT → hk.α := obF 0 fnL exB tbL
abbrev dd : DefRec := HandSHeadRun.topDef RR.prog 39
theorem run_1 (w : World) (os : OsState) : (HandSHeadRun.endF (HandSHeadRun.stepQ (HandSHeadRun.denQ HandSHeadRun.tabQ) RR.prog w) 20000 RR.prog w os).map (fun s => (HandSHeadRun.looksF RR.prog (PySem.W.boot_heap w.params) s.abs, HandSHeadRun.seenQ qv names (importedModules RR.prog.main.body) (fun s => PySem.W.xlAt qv [] s && PySem.W.recOk RR.toRowW.records s) s.abs)) = some (true, PySem.W.openGood qv names) := by
  kernel_rfl
theorem run_2 (w : World) (os : OsState) : (HandSHeadRun.endF (HandSHeadRun.stepQ (HandSHeadRun.denQ HandSHeadRun.tabQ) RR.prog w) 20000 RR.prog w os).map (fun s => (obF 0 fnL exB tbL s).1) = some true := by
  kernel_rfl
theorem run_3 (w : World) (os : OsState) : (HandSHeadRun.endF (HandSHeadRun.stepQ (HandSHeadRun.denQ HandSHeadRun.tabQ) RR.prog w) 20000 RR.prog w os).map (fun s => (obF 0 fnL exB tbL s).2) = some (fnL.map FnF.val) := by
  kernel_rfl
theorem run (w : World) : HandSHeadRun.RunEq RR qv hk obh 20000 names w := run_of (run_1 w) (run_2 w) (run_3 w)
theorem h_e : PySem.W.opening RR.prog = PySem.W.plainProg RR.prog.main.scope.names := by kernel_rfl
theorem h_f (s : Shared) : fenceModules? RR.prog s = some s := by kernel_rfl
theorem h_def : PySem.W.defOf qv RR.name = some (dd, []) := by kernel_rfl
theorem h_p : RR.prog.theDef RR.name = some (dd.params, dd.body, dd.scope) := by kernel_rfl
theorem h_k : PySem.W.kwWritten? dd.params.kwonlyargs dd.params.kw_defaults = some [] := by kernel_rfl
theorem h_n : dd.name = ("law" : Str) := by kernel_rfl
end G
namespace DL
open PySem L2
abbrev St := L2.St
inductive D where
  | non | bl (b : Bool) | int (i : Int) | str (x : Str) | ty (n : String) | cls (c : Nat)
  | lst (xs : List D) | tup (xs : List D)
  | dic (ks vs : List D)
  /-- a dict whose keys are ints, texts and tuples of such, in one -/
  | dix (ks vs : List D)
  /-- a tuple whose object is known (no dict of its own) -/
  | kn (xs : List D)
  | ins (c : Nat) (fs : List Str) (vs : List D)
  | exc (c : Nat) (fs : List Str) (vs : List D)
  /-- a lambda: its object, its code object, the code's name, what it captured -/
  | lam (f c : Addr) (q : Str) (vs : List V) (ds : List D)
instance : Inhabited D := ⟨.non⟩
inductive Sl where
  | un | dat (d : D) | own (d : D)
inductive Rf where
  | dat (d : D) | own (d : D) | slot (i : Nat)
abbrev RR (α : Type) := Option (Except D α × List Sl)
def M (α : Type) := List Sl → RR α
def ret {α : Type} (a : α) : M α := fun Γ => some (.ok a, Γ)
def bnd {α β : Type} (m : M α) (k : α → M β) : M β := fun Γ => match m Γ with
  | none => none
  | some (.error e, Γ') => some (.error e, Γ')
  | some (.ok a, Γ') => k a Γ'
def fail {α : Type} : M α := fun _ => none
def throw' {α : Type} (e : D) : M α := fun Γ => some (.error e, Γ)
theorem bnd_ok {α β : Type} {m : M α} {k : α → M β} {Γ Γ' : List Sl} {a : α} (h : m Γ = some (.ok a, Γ')) : bnd m k Γ = k a Γ' := by
  unfold bnd; rw [h]
theorem bnd_err {α β : Type} {m : M α} {k : α → M β} {Γ Γ' : List Sl} {e : D} (h : m Γ = some (.error e, Γ')) : bnd m k Γ = some (.error e, Γ') := by
  unfold bnd; rw [h]
theorem bnd_none {α β : Type} {m : M α} {k : α → M β} {Γ : List Sl} (h : m Γ = none) : bnd m k Γ = none := by
  unfold bnd; rw [h]
@[simp] theorem bnd_ret {α β : Type} (a : α) (k : α → M β) : bnd (ret a) k = k a := rfl
theorem bnd_assoc {α β γ : Type} (m : M α) (k : α → M β) (l : β → M γ) : bnd (bnd m k) l = bnd m fun a => bnd (k a) l := by
  funext Γ
  unfold bnd
  rcases m Γ with _ | ⟨_ | _, _⟩ <;> rfl
def atomK : D → Bool
  | .int _ => true
  | .str _ => true
  | _ => false
def keyD : Key → D
  | .inl i => .int i
  | .inr x => .str x
structure CM where
  at' : Nat → Addr
  w : World
  tabs : List (Addr × Str)
  codes : List (Addr × Addr)
instance : CoeFun CM fun _ => Nat → Addr := ⟨CM.at'⟩
class WC (cm : CM) (w : outParam World) : Prop where
  eq : cm.w = w
abbrev MKey := Key ⊕ List Key
def mkD : MKey → D
  | .inl k => keyD k
  | .inr ks => .tup (ks.map keyD)
def nkOf : Key → NestedKey
  | .inl i => .num i
  | .inr x => .text x
def nkM : MKey → NestedKey
  | .inl k => nkOf k
  | .inr ks => .tup (ks.map nkOf)
def MVal (F : Hp) : MKey → V → Prop
  | .inl k, v => v = kV k
  | .inr ks, v => ∃ b, v = .ref b ∧ F b = some (.tup (ks.map kV))
theorem MVal.mono {F F' : Hp} {k : MKey} {v : V} (h : MVal F k v) (e : Same F F') : MVal F' k v := by
  cases k with
  | inl k => exact h
  | inr ks => obtain ⟨b, h1, h2⟩ := h; exact ⟨b, h1, e _ _ h2⟩
abbrev MEnt := MKey × Value × Value
def entM (w : World) (x : MEnt) : DictEntry := ⟨(nkM x.1).hash w, x.2.1, x.2.2⟩
def KM (F : Hp) : List (MKey × V) → List MEnt → Prop := Paired fun (p : MKey × V) (q : MEnt) => p.1 = q.1 ∧ RelV p.2 q.2.2 ∧ ∃ v, RelV v q.2.1 ∧ MVal F q.1 v
theorem KM.mono {F F' : Hp} {kvs : List (MKey × V)} {xs : List MEnt} (h : KM F kvs xs) (e : Same F F') : KM F' kvs xs :=
  Paired.mapP h fun _ _ z => ⟨z.1, z.2.1, let ⟨v, h1, h2⟩ := z.2.2; ⟨v, h1, h2.mono e⟩⟩
abbrev MxO (w : World) (a : Addr) (xs : List MEnt) (ep : Nat) : HO := .ext fun h => ∃ o, h.get? a = some o ∧ o.ExactDict ∧ o.data = .dict (xs.map (entM w)).toArray ep
def isTupM : MKey → Bool
  | .inl _ => false
  | .inr _ => true
def ExcO (a : Addr) (C : Addr) (dx : Option Addr) : HO := .ext fun h => ∃ (o : Obj) (vs : Array Value), h.get? a = some o ∧ o.cls = .ref C ∧ o.dict = dx ∧ o.data = .fields vs
def lockO : HO → Bool
  | .dK kvs => !kvs.isEmpty
  | .dT kvs => !kvs.isEmpty
  | _ => false
def RdD (F : Hp) (a : Addr) (ho : HO) : Prop := F a = some ho ∨ (lockO ho = true ∧ ∃ o, F a = some (.frz o ho))
theorem RdD.rd {F : Hp} {a : Addr} {ho : HO} (h : RdD F a ho) : Rd F a ho := by
  rcases h with h | ⟨_, o, h⟩
  · exact .inl h
  · exact .inr ⟨o, h⟩
theorem RdD.mono {F F' : Hp} {a : Addr} {ho : HO} (h : RdD F a ho) (e : Same F F') : RdD F' a ho := by
  rcases h with h | ⟨m, o, h⟩
  · exact .inl (e _ _ h)
  · exact .inr ⟨m, o, e _ _ h⟩
theorem RdD.flat {F : Hp} {a : Addr} {ho : HO} (h : RdD F a ho) (n : lockO ho = false) : F a = some ho := by
  rcases h with h | ⟨m, _⟩
  · exact h
  · rw [n] at m; cases m
mutual
inductive Is (K : PySem.W.Frag) (cm : CM) (F : Hp) : V → D → Prop
  | non : Is K cm F .non .non
  | bl (b : Bool) : Is K cm F (.bl b) (.bl b)
  | int (i : Int) : Is K cm F (.int i) (.int i)
  | str (x : Str) : Is K cm F (.str x) (.str x)
  | ty (n : String) : Is K cm F (.ty n) (.ty n)
  | cls (c : Nat) : Is K cm F (.ref (cm c)) (.cls c)
  | klst {a : Addr} {vs : List V} {ds : List D} (h : SqL K F a vs) (hs : IsAll K cm F vs ds) : Is K cm F (.ref a) (.lst ds)
  | ktup {a : Addr} {vs : List V} {ds : List D} (h : F a = some (.tup vs)) (hs : IsAll K cm F vs ds) : Is K cm F (.ref a) (.tup ds)
  | ktupZ {a : Addr} {o : Obj} {vs : List V} {ds : List D} (h : F a = some (.frz o (.tup vs))) (ha : ds.all atomK = false) (hs : IsAll K cm F vs ds) : Is K cm F (.ref a) (.tup ds)
  | kn {a : Addr} {o : Obj} {vs : List V} {ds : List D} (h : F a = some (.frz o (.tup vs))) (hd : o.dict = none) (ha : ds.all atomK = false) (hs : IsAll K cm F vs ds) : Is K cm F (.ref a) (.kn ds)
  | obj {a : Addr} {ho : HO} {d : D} (h : RdD F a ho) (ho : OwnIs K cm F ho d) : Is K cm F (.ref a) d
  | exc {a dx : Addr} {c : Nat} {ws : List (Str × V)} {fs : List Str} {vs : List D} (h : F a = some (ExcO a (cm c) (some dx))) (hd : F dx = some (.xd ws)) (hf : ws.map (·.1) = fs) (hs : IsAll K cm F (ws.map (·.2)) vs) : Is K cm F (.ref a) (.exc c fs vs)
  | exc0 {a : Addr} {c : Nat} (h : F a = some (ExcO a (cm c) none)) : Is K cm F (.ref a) (.exc c [] [])
  | lam {f c : Addr} {q : Str} {vs : List V} {ds : List D} (h : F c = some (LamX.CodeO c q)) (hs : IsAll K cm F vs ds) : Is K cm F (.ref f) (.lam f c q vs ds)
inductive OwnIs (K : PySem.W.Frag) (cm : CM) (F : Hp) : HO → D → Prop
  | lst {vs : List V} {ds : List D} (hs : IsAll K cm F vs ds) : OwnIs K cm F (.lst vs) (.lst ds)
  | dK {kvs : List (Key × V)} {ks vs : List D} (hk : kvs.map (fun p => keyD p.1) = ks) (hs : IsAll K cm F (kvs.map (·.2)) vs) : OwnIs K cm F (.dK kvs) (.dic ks vs)
  | dT {kvs : List (List Key × V)} {ks vs : List D} (hk : kvs.map (fun p => D.tup (p.1.map keyD)) = ks) (hs : IsAll K cm F (kvs.map (·.2)) vs) : OwnIs K cm F (.dT kvs) (.dic ks vs)
  | dX {a : Addr} {ep : Nat} {kvs : List (MKey × V)} {xs : List MEnt} {ks vs : List D} (ha : (a == sysModules) = false) (hl : xs.length ≤ sizeLine) (hn : (xs.map (·.1)).Nodup) (ht : ∃ x ∈ xs, isTupM x.1 = true) (hp : KM F kvs xs) (hk : kvs.map (fun p => mkD p.1) = ks) (hs : IsAll K cm F (kvs.map (·.2)) vs) : OwnIs K cm F (MxO cm.w a xs ep) (.dix ks vs)
  | ins {c : Nat} {dx : Addr} {ws : List (Str × V)} {fs : List Str} {vs : List D} (hf : ws.map (·.1) = fs) (hs : IsAll K cm F (ws.map (·.2)) vs) : OwnIs K cm F (.ins (cm c) dx ws) (.ins c fs vs)
inductive IsAll (K : PySem.W.Frag) (cm : CM) (F : Hp) : List V → List D → Prop
  | nil : IsAll K cm F [] []
  | cons {v : V} {vs : List V} {d : D} {ds : List D} (h : Is K cm F v d) (hs : IsAll K cm F vs ds) : IsAll K cm F (v :: vs) (d :: ds)
end
section
variable {K : PySem.W.Frag} {cm : CM} {F F' H H' : Hp}
theorem rd_same {a : Addr} {o : HO} (e : Same F F') (h : Rd F a o) : Rd F' a o := by
  rcases h with h | ⟨u, h⟩
  · exact .inl (e _ _ h)
  · exact .inr ⟨u, e _ _ h⟩
theorem sql_same {a : Addr} {xs : List V} (e : Same F F') (h : SqL K F a xs) : SqL K F' a xs := by
  rcases h with h | h
  · exact .inl (rd_same e h)
  · exact .inr h
theorem sqt_same {a : Addr} {xs : List V} (e : Same F F') (h : SqT K F a xs) : SqT K F' a xs := by
  rcases h with (h | ⟨o, h⟩) | h
  · exact .inl (.inl (e _ _ h))
  · exact .inl (.inr ⟨o, e _ _ h⟩)
  · exact .inr h
mutual
theorem Is.mono (e : Same F F') : ∀ (d : D) {v : V}, Is K cm F v d → Is K cm F' v d
  | .non, _, h => by
    cases h with
    | non => exact .non
    | obj h ho => cases ho
  | .bl b, _, h => by
    cases h with
    | bl => exact .bl b
    | obj h ho => cases ho
  | .int i, _, h => by
    cases h with
    | int => exact .int i
    | obj h ho => cases ho
  | .str x, _, h => by
    cases h with
    | str => exact .str x
    | obj h ho => cases ho
  | .ty n, _, h => by
    cases h with
    | ty => exact .ty n
    | obj h ho => cases ho
  | .cls c, _, h => by
    cases h with
    | cls => exact .cls c
    | obj h ho => cases ho
  | .lst ds, _, h => by
    cases h with
    | klst h hs => exact .klst (sql_same e h) (IsAll.mono e ds hs)
    | obj h ho =>
      cases ho with
      | lst hs => exact .obj (h.mono e) (.lst (IsAll.mono e ds hs))
  | .tup ds, _, h => by
    cases h with
    | ktup h hs => exact .ktup (e _ _ h) (IsAll.mono e ds hs)
    | ktupZ h ha hs => exact .ktupZ (e _ _ h) ha (IsAll.mono e ds hs)
    | obj h ho => cases ho
  | .kn ds, _, h => by
    cases h with
    | kn h hd ha hs => exact .kn (e _ _ h) hd ha (IsAll.mono e ds hs)
    | obj h ho => cases ho
  | .dic ks vs, _, h => by
    cases h with
    | obj h ho =>
      cases ho with
      | dK hk hs => exact .obj (h.mono e) (.dK hk (IsAll.mono e vs hs))
      | dT hk hs => exact .obj (h.mono e) (.dT hk (IsAll.mono e vs hs))
  | .dix ks vs, _, h => by
    cases h with
    | obj h ho =>
      cases ho with
      | dX ha hl hn ht hp hk hs => exact .obj (h.mono e) (.dX ha hl hn ht (hp.mono e) hk (IsAll.mono e vs hs))
  | .ins c fs vs, _, h => by
    cases h with
    | obj h ho =>
      cases ho with
      | ins hf hs => exact .obj (h.mono e) (.ins hf (IsAll.mono e vs hs))
  | .exc c fs vs, _, h => by
    cases h with
    | exc h hd hf hs => exact .exc (e _ _ h) (e _ _ hd) hf (IsAll.mono e vs hs)
    | exc0 h => exact .exc0 (e _ _ h)
    | obj h ho => cases ho
  | .lam f c q vs ds, _, h => by
    cases h with
    | lam h hs => exact .lam (e _ _ h) (IsAll.mono e ds hs)
    | obj h ho => cases ho
theorem IsAll.mono (e : Same F F') : ∀ (ds : List D) {vs : List V}, IsAll K cm F vs ds → IsAll K cm F' vs ds
  | [], _, h => by
    cases h
    exact .nil
  | d :: ds, _, h => by
    cases h with
    | cons h hs => exact .cons (Is.mono e d h) (IsAll.mono e ds hs)
end
theorem OwnIs.mono (e : Same F F') {ho : HO} {d : D} (h : OwnIs K cm F ho d) : OwnIs K cm F' ho d := by
  cases h with
  | lst hs => exact .lst (hs.mono e _)
  | dK hk hs => exact .dK hk (hs.mono e _)
  | dT hk hs => exact .dT hk (hs.mono e _)
  | dX ha hl hn ht hp hk hs => exact .dX ha hl hn ht (hp.mono e) hk (hs.mono e _)
  | ins hf hs => exact .ins hf (hs.mono e _)
theorem IsAll.length : ∀ {vs : List V} {ds : List D}, IsAll K cm F vs ds → vs.length = ds.length
  | _, [], h => by cases h; rfl
  | _, d :: ds, h => by
    cases h with
    | cons h hs => simp [IsAll.length hs]
theorem IsAll.get : ∀ {vs : List V} {ds : List D} {i : Nat} {d : D}, IsAll K cm F vs ds → ds[i]? = some d → ∃ v, vs[i]? = some v ∧ Is K cm F v d
  | _, [], i, d, h, e => by simp at e
  | _, _ :: ds, 0, d, h, e => by
    cases h with
    | cons h hs => simp at e; subst e; exact ⟨_, rfl, h⟩
  | _, _ :: ds, i + 1, d, h, e => by
    cases h with
    | cons h hs =>
      obtain ⟨v, h1, h2⟩ := IsAll.get (i := i) hs (by simpa using e)
      exact ⟨v, by simpa using h1, h2⟩
theorem IsAll.append : ∀ {vs ws : List V} {ds es : List D}, IsAll K cm F vs ds → IsAll K cm F ws es → IsAll K cm F (vs ++ ws) (ds ++ es)
  | _, _, [], _, h, g => by cases h; exact g
  | _, _, d :: ds, _, h, g => by
    cases h with
    | cons h hs => exact .cons h (IsAll.append hs g)
theorem IsAll.split : ∀ {vs : List V} {ds es : List D}, IsAll K cm F vs (ds ++ es) → ∃ v1 v2, vs = v1 ++ v2 ∧ IsAll K cm F v1 ds ∧ IsAll K cm F v2 es
  | vs, [], es, h => ⟨[], vs, rfl, .nil, h⟩
  | _, d :: ds, es, h => by
    cases h with
    | cons h hs =>
      obtain ⟨v1, v2, rfl, h1, h2⟩ := IsAll.split hs
      exact ⟨_ :: v1, v2, rfl, .cons h h1, h2⟩
theorem IsAll.take : ∀ {vs : List V} {ds : List D} (n : Nat), IsAll K cm F vs ds → IsAll K cm F (vs.take n) (ds.take n)
  | _, [], n, h => by cases h; simpa using IsAll.nil
  | _, d :: ds, 0, h => by simpa using IsAll.nil
  | _, d :: ds, n + 1, h => by
    cases h with
    | cons h hs => exact .cons h (IsAll.take n hs)
theorem IsAll.drop : ∀ {vs : List V} {ds : List D} (n : Nat), IsAll K cm F vs ds → IsAll K cm F (vs.drop n) (ds.drop n)
  | _, [], n, h => by cases h; simpa using IsAll.nil
  | _, d :: ds, 0, h => h
  | _, d :: ds, n + 1, h => by
    cases h with
    | cons h hs => exact IsAll.drop n hs
theorem IsAll.set : ∀ {vs : List V} {ds : List D} {v : V} {d : D} (i : Nat), IsAll K cm F vs ds → Is K cm F v d → IsAll K cm F (vs.set i v) (ds.set i d)
  | _, [], v, d, i, h, g => by cases h; exact .nil
  | _, _ :: ds, v, d, 0, h, g => by
    cases h with
    | cons h hs => exact .cons g hs
  | _, _ :: ds, v, d, i + 1, h, g => by
    cases h with
    | cons h hs => exact .cons h (IsAll.set i hs g)
theorem IsAll.reverse : ∀ {vs : List V} {ds : List D}, IsAll K cm F vs ds → IsAll K cm F vs.reverse ds.reverse
  | _, [], h => by cases h; exact .nil
  | _, d :: ds, h => by
    cases h with
    | cons h hs =>
      rw [List.reverse_cons, List.reverse_cons]
      exact (IsAll.reverse hs).append (.cons h .nil)
def IsT (K : PySem.W.Frag) (cm : CM) (F H : Hp) (v : V) (d : D) : Prop := Is K cm F v d ∨ ∃ a ho, v = .ref a ∧ H a = some ho ∧ OwnIs K cm F ho d
theorem Is.t {v : V} {d : D} (h : Is K cm F v d) : IsT K cm F H v d := .inl h
theorem IsT.non {v : V} (h : IsT K cm F H v .non) : v = .non := by
  rcases h with h | ⟨a, ho, rfl, e, h⟩
  · cases h with
    | non => rfl
    | obj h ho => cases ho
  · cases h
theorem IsT.bl {v : V} {b : Bool} (h : IsT K cm F H v (.bl b)) : v = .bl b := by
  rcases h with h | ⟨a, ho, rfl, e, h⟩
  · cases h with
    | bl => rfl
    | obj h ho => cases ho
  · cases h
theorem IsT.int {v : V} {i : Int} (h : IsT K cm F H v (.int i)) : v = .int i := by
  rcases h with h | ⟨a, ho, rfl, e, h⟩
  · cases h with
    | int => rfl
    | obj h ho => cases ho
  · cases h
theorem IsT.str {v : V} {x : Str} (h : IsT K cm F H v (.str x)) : v = .str x := by
  rcases h with h | ⟨a, ho, rfl, e, h⟩
  · cases h with
    | str => rfl
    | obj h ho => cases ho
  · cases h
theorem IsT.ty {v : V} {n : String} (h : IsT K cm F H v (.ty n)) : v = .ty n := by
  rcases h with h | ⟨a, ho, rfl, e, h⟩
  · cases h with
    | ty => rfl
    | obj h ho => cases ho
  · cases h
theorem IsT.cls {v : V} {c : Nat} (h : IsT K cm F H v (.cls c)) : v = .ref (cm c) := by
  rcases h with h | ⟨a, ho, rfl, e, h⟩
  · cases h with
    | cls => rfl
    | obj h ho => cases ho
  · cases h
theorem IsT.lst {v : V} {ds : List D} (hh : Same F H) (h : IsT K cm F H v (.lst ds)) : ∃ a vs, v = .ref a ∧ SqL K H a vs ∧ IsAll K cm F vs ds := by
  rcases h with h | ⟨a, ho, rfl, e, h⟩
  · cases h with
    | klst h hs => exact ⟨_, _, rfl, sql_same hh h, hs⟩
    | obj h ho =>
      cases ho with
      | lst hs => exact ⟨_, _, rfl, .inl (.of (hh _ _ (h.flat rfl))), hs⟩
  · cases h with
    | lst hs => exact ⟨_, _, rfl, .inl (.of e), hs⟩
theorem IsT.tup {v : V} {ds : List D} (hh : Same F H) (h : IsT K cm F H v (.tup ds)) : ∃ a vs, v = .ref a ∧ SqT K H a vs ∧ IsAll K cm F vs ds := by
  rcases h with h | ⟨a, ho, rfl, e, h⟩
  · cases h with
    | ktup h hs => exact ⟨_, _, rfl, .of (hh _ _ h), hs⟩
    | ktupZ h ha hs => exact ⟨_, _, rfl, .inl (.inr ⟨_, hh _ _ h⟩), hs⟩
    | obj h ho => cases ho
  · cases h
theorem IsT.tupD {v : V} {ds : List D} (h : IsT K cm F H v (.tup ds)) (hat : ds.all atomK = true) : ∃ a vs, v = .ref a ∧ F a = some (.tup vs) ∧ IsAll K cm F vs ds := by
  rcases h with h | ⟨a, ho, rfl, e, h⟩
  · cases h with
    | ktup h hs => exact ⟨_, _, rfl, h, hs⟩
    | ktupZ h ha hs => rw [hat] at ha; cases ha
    | obj h ho => cases ho
  · cases h
theorem IsT.dic {v : V} {ks vs : List D} (hh : Same F H) (h : IsT K cm F H v (.dic ks vs)) : ∃ a ho, v = .ref a ∧ RdD H a ho ∧ OwnIs K cm F ho (.dic ks vs) := by
  rcases h with h | ⟨a, ho, rfl, e, h⟩
  · cases h with
    | obj h ho => exact ⟨_, _, rfl, h.mono hh, ho⟩
  · exact ⟨_, _, rfl, .inl e, h⟩
theorem IsT.ins {v : V} {c : Nat} {fs : List Str} {vs : List D} (hh : Same F H) (h : IsT K cm F H v (.ins c fs vs)) : ∃ a dx ws, v = .ref a ∧ H a = some (.ins (cm c) dx ws) ∧ ws.map (·.1) = fs ∧ IsAll K cm F (ws.map (·.2)) vs := by
  rcases h with h | ⟨a, ho, rfl, e, h⟩
  · cases h with
    | obj h ho =>
      cases ho with
      | ins hf hs => exact ⟨_, _, _, rfl, hh _ _ (h.flat rfl), hf, hs⟩
  · cases h with
    | ins hf hs => exact ⟨_, _, _, rfl, e, hf, hs⟩
theorem IsT.exc {v : V} {c : Nat} {fs : List Str} {vs : List D} (hh : Same F H) (h : IsT K cm F H v (.exc c fs vs)) : ∃ a dx, v = .ref a ∧ H a = some (ExcO a (cm c) dx) ∧
    ((∃ d ws, dx = some d ∧ H d = some (.xd ws) ∧ ws.map (·.1) = fs ∧ IsAll K cm F (ws.map (·.2)) vs) ∨ (dx = none ∧ fs = [] ∧ vs = [])) := by
  rcases h with h | ⟨a, ho, rfl, e, h⟩
  · cases h with
    | exc h hd hf hs => exact ⟨_, _, rfl, hh _ _ h, .inl ⟨_, _, rfl, hh _ _ hd, hf, hs⟩⟩
    | exc0 h => exact ⟨_, _, rfl, hh _ _ h, .inr ⟨rfl, rfl, rfl⟩⟩
    | obj h ho => cases ho
  · cases h
def ntb : HO → Bool
  | .tbl _ => false
  | _ => true
theorem OwnIs.ntb {ho : HO} {d : D} (h : OwnIs K cm F ho d) : DL.ntb ho = true := by
  cases h <;> rfl
def Keep (H H' : Hp) : Prop := ∀ b o, H b = some o → H' b = some o ∨ (DL.ntb o = false ∧ ∃ ps, H' b = some (.tbl ps))
theorem Keep.of (h : Same H H') : Keep H H' := fun b o e => .inl (h b o e)
theorem Keep.refl (H : Hp) : Keep H H := .of (.refl H)
theorem Keep.at (k : Keep H H') {b : Addr} {o : HO} (e : H b = some o) (n : DL.ntb o = true) : H' b = some o := by
  rcases k b o e with h | ⟨h, _⟩
  · exact h
  · rw [n] at h; cases h
theorem Keep.trans {H1 H2 H3 : Hp} (a : Keep H1 H2) (b : Keep H2 H3) : Keep H1 H3 := fun p o e => by
  rcases a p o e with h | ⟨n, ps, h⟩
  · exact b p o h
  · rcases b p _ h with h | ⟨_, ps', h⟩
    · exact .inr ⟨n, ps, h⟩
    · exact .inr ⟨n, ps', h⟩
theorem Keep.free (k : Keep H H') {p : Addr} (h : H' p = none) : H p = none := by
  cases e : H p with
  | none => rfl
  | some o =>
    rcases k p o e with z | ⟨_, ps, z⟩
    · rw [h] at z; cases z
    · rw [h] at z; cases z
structure TabsF (cm : CM) (F H : Hp) : Prop where
  all : ∀ b ps, H b = some (.tbl ps) → ∃ q, (b, q) ∈ cm.tabs
  nof : ∀ b o, F b = some o → DL.ntb o = true
  tab : ∀ p ∈ cm.tabs, ∃ ps : Array Value, H p.1 = some (.tbl ps) ∧ PySem.TriplesOk ps.toList ∧ ∀ (pos : Pos) (cv : Value), PySem.codeAmong pos ps.toList = some cv → ∃ c, cv = .ref c ∧ F c = some (LamX.CodeO c p.2)
theorem TabsF.step {cm : CM} {F H F' H' : Hp} (t : TabsF cm F H) (ff : Same F F') (hs : ∀ b ps, H b = some (.tbl ps) → H' b = some (.tbl ps)) (hb : ∀ b ps, H' b = some (.tbl ps) → H b = some (.tbl ps)) (nf : ∀ b o, F' b = some o → F b = some o ∨ DL.ntb o = true) : TabsF cm F' H' where
  all := fun b ps e => t.all b ps (hb b ps e)
  nof := fun b o e => (nf b o e).elim (t.nof b o) id
  tab := fun p hp => by
    obtain ⟨ps, h1, h2, h3⟩ := t.tab p hp
    refine ⟨ps, hs _ _ h1, h2, fun pos cv e => ?_⟩
    obtain ⟨c, e1, e2⟩ := h3 pos cv e
    exact ⟨c, e1, ff _ _ e2⟩
structure Step (cm : CM) (F H F' H' : Hp) : Prop where
  hh : Keep H H'
  ff : Same F F'
  fh : Same F' H'
  nw : ∀ p o, F' p = some o → F p = some o ∨ H p = none
  tb : TabsF cm F H → TabsF cm F' H'
theorem Step.refl (h : Same F H) : Step cm F H F H := ⟨.refl _, .refl _, h, fun _ _ e => .inl e, id⟩
theorem Step.trans {F1 H1 F2 H2 : Hp} (a : Step cm F H F1 H1) (b : Step cm F1 H1 F2 H2) : Step cm F H F2 H2 :=
  ⟨a.hh.trans b.hh, a.ff.trans b.ff, b.fh, fun p o e => by
    rcases b.nw p o e with h | h
    · exact a.nw p o h
    · exact .inr (a.hh.free h), fun t => b.tb (a.tb t)⟩
theorem _root_.L2.Same.up {p : Addr} {o : HO} (h : H p = none) : Same H (upd H p o) := fun b u e => by
  rw [upd_ne (ne_of_none e h)]; exact e
theorem _root_.L2.Same.upd2 {p : Addr} {o : HO} (h : Same F H) : Same (upd F p o) (upd H p o) := fun b u e => by
  by_cases hb : b = p
  · subst hb; rw [upd_same] at e; cases e; exact upd_same
  · rw [upd_ne hb] at e; rw [upd_ne hb]; exact h b u e
theorem upd_tbl {p : Addr} {o : HO} (n : DL.ntb o = true) {b : Addr} {ps : Array Value} (e : upd H p o b = some (.tbl ps)) : H b = some (.tbl ps) := by
  by_cases hb : b = p
  · subst hb; rw [upd_same] at e; cases e; cases n
  · rw [upd_ne hb] at e; exact e
theorem upd_nof {p : Addr} {o u : HO} (n : DL.ntb o = true) {b : Addr} (e : upd F p o b = some u) : F b = some u ∨ DL.ntb u = true := by
  by_cases hb : b = p
  · subst hb; rw [upd_same] at e; cases e; exact .inr n
  · rw [upd_ne hb] at e; exact .inl e
theorem Step.new {p : Addr} {o : HO} (h : Same F H) (n : H p = none) (nt : DL.ntb o = true := by rfl) : Step cm F H (upd F p o) (upd H p o) :=
  ⟨.of (.up n), .up (h.free n), h.upd2, fun b u e => by
    by_cases hb : b = p
    · subst hb; exact .inr n
    · rw [upd_ne hb] at e; exact .inl e, fun t => t.step (.up (h.free n)) (fun b ps e => Same.up n _ _ e) (fun b ps e => upd_tbl nt e) fun b u e => upd_nof nt e⟩
theorem Step.newOwn {p : Addr} {o : HO} (h : Same F H) (n : H p = none) (nt : DL.ntb o = true := by rfl) : Step cm F H F (upd H p o) :=
  ⟨.of (.up n), .refl _, h.trans (.up n), fun _ _ e => .inl e, fun t => t.step (.refl _) (fun b ps e => Same.up n _ _ e) (fun b ps e => upd_tbl nt e) fun _ _ e => .inl e⟩
theorem _root_.L2.Same.fr {p : Addr} {o : HO} (h : Same F H) (e : H p = some o) : Same (upd F p o) H := fun b u q => by
  by_cases hb : b = p
  · subst hb; rw [upd_same] at q; cases q; exact e
  · rw [upd_ne hb] at q; exact h b u q
theorem TabsF.fr {p : Addr} {o : HO} (t : TabsF cm F H) (n : F p = none) (nt : DL.ntb o = true) : TabsF cm (upd F p o) H :=
  t.step (.up n) (fun _ _ e => e) (fun _ _ e => e) fun b u e => upd_nof nt e
theorem OwnIs.fr {p : Addr} {ho : HO} {d : D} (h : OwnIs K cm F ho d) (n : F p = none) : Is K cm (upd F p ho) (.ref p) d :=
  .obj (.inl upd_same) (h.mono (.up n))
end
structure Sat (K : PySem.W.Frag) (cm : CM) (io : Option Addr) (B F0 F : Hp) (Γ : List Sl) (σ : St) (H : Hp) : Prop where
  fh : Same F H
  bh : Keep B H
  tb : TabsF cm F H
  f0 : Same F0 F
  nw : ∀ p o, F p = some o → F0 p = some o ∨ B p = none
  len : Γ.length = σ.length
  dt : ∀ (i : Nat) (d : D), Γ[i]? = some (.dat d) → ∃ v, σ[i]? = some (some v) ∧ Is K cm F v d
  ow : ∀ (i : Nat) (d : D), Γ[i]? = some (.own d) → ∃ a ho, σ[i]? = some (some (.ref a)) ∧ F a = none ∧ B a = none ∧ H a = some ho ∧ OwnIs K cm F ho d
  ap : ∀ (i j : Nat) (d e : D) (a : Addr), Γ[i]? = some (.own d) → Γ[j]? = some (.own e) → σ[i]? = some (some (.ref a)) → σ[j]? = some (some (.ref a)) → i = j
  ioA : ∀ a : Addr, io = some a → σ[0]? = some (some (.ref a))
def FT (cm : CM) (F H : Hp) : Prop := Same F H ∧ TabsF cm F H
theorem Sat.ft {K : PySem.W.Frag} {cm : CM} {io : Option Addr} {B F0 F : Hp} {Γ : List Sl} {σ : St} {H : Hp} (S : Sat K cm io B F0 F Γ σ H) : FT cm F H := ⟨S.fh, S.tb⟩
def IsRf (K : PySem.W.Frag) (cm : CM) (B F : Hp) (Γ : List Sl) (σ : St) (H : Hp) (v : V) : Rf → Prop
  | .dat d => Is K cm F v d
  | .own d => ∃ a ho, v = .ref a ∧ F a = none ∧ B a = none ∧ H a = some ho ∧ OwnIs K cm F ho d ∧ ∀ (i : Nat) (e : D), Γ[i]? = some (.own e) → σ[i]? ≠ some (some (.ref a))
  | .slot i => σ[i]? = some (some v) ∧ ∃ d, Γ[i]? = some (.own d)
def IsExc (K : PySem.W.Frag) (cm : CM) (F : Hp) (cls : Value) (dx : Option Addr) : D → Prop
  | .exc c fs vs => cls = .ref (cm c) ∧ ((∃ d ws, dx = some d ∧ F d = some (.xd ws) ∧ ws.map (·.1) = fs ∧ IsAll K cm F (ws.map (·.2)) vs) ∨ (dx = none ∧ fs = [] ∧ vs = []))
  | _ => False
theorem IsExc.mono {K : PySem.W.Frag} {cm : CM} {F F' : Hp} {cls : Value} {dx : Option Addr} {e : D} (s : Same F F') (h : IsExc K cm F cls dx e) : IsExc K cm F' cls dx e := by
  cases e with
  | exc c fs vs =>
    obtain ⟨h1, h2⟩ := h
    refine ⟨h1, ?_⟩
    rcases h2 with ⟨d, ws, h2, h3, h4, h5⟩ | h2
    · exact .inl ⟨d, ws, h2, s _ _ h3, h4, h5.mono s _⟩
    · exact .inr h2
  | _ => exact h.elim
section
variable {K : PySem.W.Frag} {cm : CM} {io : Option Addr} {B F0 F F' : Hp} {Γ : List Sl} {σ : St} {H H' : Hp}
theorem Sat.step (S : Sat K cm io B F0 F Γ σ H) (t : Step cm F H F' H') : Sat K cm io B F0 F' Γ σ H' where
  fh := t.fh
  bh := S.bh.trans t.hh
  tb := t.tb S.tb
  f0 := S.f0.trans t.ff
  nw := fun p o e => by
    rcases t.nw p o e with h | h
    · exact S.nw p o h
    · exact .inr (S.bh.free h)
  len := S.len
  dt := fun i d e => let ⟨v, h1, h2⟩ := S.dt i d e; ⟨v, h1, h2.mono t.ff _⟩
  ow := fun i d e => by
    obtain ⟨a, ho, h1, h2, h3, h4, h5⟩ := S.ow i d e
    refine ⟨a, ho, h1, ?_, h3, t.hh.at h4 h5.ntb, h5.mono t.ff⟩
    cases q : F' a with
    | none => rfl
    | some o =>
      rcases t.nw a o q with z | z
      · rw [h2] at z; cases z
      · rw [h4] at z; cases z
  ap := S.ap
  ioA := S.ioA
theorem Sat.fr (S : Sat K cm io B F0 F Γ σ H) {p : Addr} {ho : HO} (n : F p = none) (nB : B p = none) (e : H p = some ho) (hn : ∀ (i : Nat) (d : D), Γ[i]? = some (.own d) → σ[i]? ≠ some (some (.ref p))) (nt : DL.ntb ho = true) :
    Sat K cm io B F0 (upd F p ho) Γ σ H where
  fh := S.fh.fr e
  bh := S.bh
  tb := S.tb.fr n nt
  f0 := S.f0.trans (.up n)
  nw := fun q o h => by
    by_cases hq : q = p
    · subst hq; exact .inr nB
    · rw [upd_ne hq] at h; exact S.nw q o h
  len := S.len
  dt := fun i d h => let ⟨v, h1, h2⟩ := S.dt i d h; ⟨v, h1, h2.mono (.up n) _⟩
  ow := fun i d h => by
    obtain ⟨a, ho', h1, h2, h3, h4, h5⟩ := S.ow i d h
    have ne : a ≠ p := fun z => hn i d h (by rw [h1, z])
    exact ⟨a, ho', h1, by rw [upd_ne ne]; exact h2, h3, h4, h5.mono (.up n)⟩
  ap := S.ap
  ioA := S.ioA
theorem get_set {α : Type} {l : List α} {i j : Nat} {x y : α} (h : (l.set i x)[j]? = some y) : (j = i ∧ i < l.length ∧ y = x) ∨ (j ≠ i ∧ l[j]? = some y) := by
  by_cases e : j = i
  · subst e
    by_cases hl : j < l.length
    · rw [List.getElem?_set_self hl] at h
      exact .inl ⟨rfl, hl, (Option.some.inj h).symm⟩
    · rw [List.getElem?_eq_none (by simpa using hl)] at h; cases h
  · rw [List.getElem?_set_ne (Ne.symm e)] at h
    exact .inr ⟨e, h⟩
theorem lt_of_get {α : Type} {l : List α} {i : Nat} {x : α} (h : l[i]? = some x) : i < l.length := (List.getElem?_eq_some_iff.mp h).1
theorem Sat.frSlot (S : Sat K cm io B F0 F Γ σ H) {i : Nat} {d : D} (e : Γ[i]? = some (.own d)) :
    ∃ a ho F', σ[i]? = some (some (.ref a)) ∧ H a = some ho ∧ F' = upd F a ho ∧ Same F F' ∧ Is K cm F' (.ref a) d ∧ Sat K cm io B F0 F' (Γ.set i (.dat d)) σ H := by
  obtain ⟨a, ho, h1, h2, h3, h4, h5⟩ := S.ow i d e
  refine ⟨a, ho, _, h1, h4, rfl, .up h2, h5.fr h2, ?_⟩
  refine ⟨S.fh.fr h4, S.bh, S.tb.fr h2 h5.ntb, S.f0.trans (.up h2), fun q o h => ?_, by rw [List.length_set]; exact S.len, fun j d' h => ?_, fun j d' h => ?_, fun j k d1 d2 b g1 g2 g3 g4 => ?_, S.ioA⟩
  · by_cases hq : q = a
    · subst hq; exact .inr h3
    · rw [upd_ne hq] at h; exact S.nw q o h
  · rcases get_set h with ⟨rfl, _, q⟩ | ⟨hj, q⟩
    · injection q with q; subst q
      exact ⟨_, h1, h5.fr h2⟩
    · obtain ⟨v, g1, g2⟩ := S.dt j d' q
      exact ⟨v, g1, g2.mono (.up h2) _⟩
  · rcases get_set h with ⟨rfl, _, q⟩ | ⟨hj, q⟩
    · cases q
    · obtain ⟨a', ho', g1, g2, g3, g4, g5⟩ := S.ow j d' q
      have ne : a' ≠ a := fun z => hj (S.ap j i d' d a q e (by rw [g1, z]) h1)
      exact ⟨a', ho', g1, by rw [upd_ne ne]; exact g2, g3, g4, g5.mono (.up h2)⟩
  · rcases get_set g1 with ⟨rfl, _, q⟩ | ⟨hj, q⟩
    · cases q
    · rcases get_set g2 with ⟨rfl, _, q'⟩ | ⟨hk, q'⟩
      · cases q'
      · exact S.ap j k d1 d2 b q q' g3 g4
theorem Sat.set (S : Sat K cm io B F0 F Γ σ H) {i : Nat} {v : V} {d : D} (hi : io = none ∨ i ≠ 0) (h : Is K cm F v d) : Sat K cm io B F0 F (Γ.set i (.dat d)) (σ.set i (some v)) H := by
  refine ⟨S.fh, S.bh, S.tb, S.f0, S.nw, by rw [List.length_set, List.length_set]; exact S.len, fun j d' e => ?_, fun j d' e => ?_, fun j k d1 d2 b g1 g2 g3 g4 => ?_, fun a ha => ?_⟩
  · rcases get_set e with ⟨rfl, hl, q⟩ | ⟨hj, q⟩
    · injection q with q; subst q
      exact ⟨v, by rw [List.getElem?_set_self (by rw [← S.len]; exact hl)], h⟩
    · obtain ⟨w, g1, g2⟩ := S.dt j d' q
      exact ⟨w, by rw [List.getElem?_set_ne (Ne.symm hj)]; exact g1, g2⟩
  · rcases get_set e with ⟨rfl, hl, q⟩ | ⟨hj, q⟩
    · cases q
    · obtain ⟨a', ho', g1, g2⟩ := S.ow j d' q
      exact ⟨a', ho', by rw [List.getElem?_set_ne (Ne.symm hj)]; exact g1, g2⟩
  · rcases get_set g1 with ⟨rfl, _, q⟩ | ⟨hj, q⟩
    · cases q
    · rcases get_set g2 with ⟨rfl, _, q'⟩ | ⟨hk, q'⟩
      · cases q'
      · rw [List.getElem?_set_ne (Ne.symm hj)] at g3
        rw [List.getElem?_set_ne (Ne.symm hk)] at g4
        exact S.ap j k d1 d2 b q q' g3 g4
  · rcases hi with hi | hi
    · rw [hi] at ha; cases ha
    · rw [List.getElem?_set_ne hi]; exact S.ioA a ha
theorem Sat.setOwn (S : Sat K cm io B F0 F Γ σ H) {i : Nat} {a : Addr} {ho : HO} {d : D} (hi : io = none ∨ i ≠ 0) (n : F a = none) (nB : B a = none) (e : H a = some ho) (h : OwnIs K cm F ho d)
    (hn : ∀ (i : Nat) (d : D), Γ[i]? = some (.own d) → σ[i]? ≠ some (some (.ref a))) : Sat K cm io B F0 F (Γ.set i (.own d)) (σ.set i (some (.ref a))) H := by
  refine ⟨S.fh, S.bh, S.tb, S.f0, S.nw, by rw [List.length_set, List.length_set]; exact S.len, fun j d' e => ?_, fun j d' e' => ?_, fun j k d1 d2 b g1 g2 g3 g4 => ?_, fun a ha => ?_⟩
  · rcases get_set e with ⟨rfl, hl, q⟩ | ⟨hj, q⟩
    · cases q
    · obtain ⟨w, g1, g2⟩ := S.dt j d' q
      exact ⟨w, by rw [List.getElem?_set_ne (Ne.symm hj)]; exact g1, g2⟩
  · rcases get_set e' with ⟨rfl, hl, q⟩ | ⟨hj, q⟩
    · injection q with q; subst q
      exact ⟨a, ho, by rw [List.getElem?_set_self (by rw [← S.len]; exact hl)], n, nB, e, h⟩
    · obtain ⟨a', ho', g1, g2⟩ := S.ow j d' q
      exact ⟨a', ho', by rw [List.getElem?_set_ne (Ne.symm hj)]; exact g1, g2⟩
  · rcases get_set g1 with ⟨rfl, hl, q⟩ | ⟨hj, q⟩
    · rcases get_set g2 with ⟨rfl, _, q'⟩ | ⟨hk, q'⟩
      · rfl
      · rw [List.getElem?_set_self (by rw [← S.len]; exact hl)] at g3
        rw [List.getElem?_set_ne (Ne.symm hk)] at g4
        injection g3 with g3; injection g3 with g3; injection g3 with g3; subst g3
        exact absurd g4 (hn k d2 q')
    · rcases get_set g2 with ⟨rfl, hl, q'⟩ | ⟨hk, q'⟩
      · rw [List.getElem?_set_self (by rw [← S.len]; exact hl)] at g4
        rw [List.getElem?_set_ne (Ne.symm hj)] at g3
        injection g4 with g4; injection g4 with g4; injection g4 with g4; subst g4
        exact absurd g3 (hn j d1 q)
      · rw [List.getElem?_set_ne (Ne.symm hj)] at g3
        rw [List.getElem?_set_ne (Ne.symm hk)] at g4
        exact S.ap j k d1 d2 b q q' g3 g4
  · rcases hi with hi | hi
    · rw [hi] at ha; cases ha
    · rw [List.getElem?_set_ne hi]; exact S.ioA a ha
theorem Sat.wipe1 (S : Sat K cm io B F0 F Γ σ H) {i : Nat} (hi : io = none ∨ i ≠ 0) : Sat K cm io B F0 F (Γ.set i .un) (σ.set i none) H := by
  refine ⟨S.fh, S.bh, S.tb, S.f0, S.nw, by rw [List.length_set, List.length_set]; exact S.len, fun j d' e => ?_, fun j d' e => ?_, fun j k d1 d2 b g1 g2 g3 g4 => ?_, fun a ha => ?_⟩
  · rcases get_set e with ⟨rfl, hl, q⟩ | ⟨hj, q⟩
    · cases q
    · obtain ⟨w, g1, g2⟩ := S.dt j d' q
      exact ⟨w, by rw [List.getElem?_set_ne (Ne.symm hj)]; exact g1, g2⟩
  · rcases get_set e with ⟨rfl, hl, q⟩ | ⟨hj, q⟩
    · cases q
    · obtain ⟨a', ho', g1, g2⟩ := S.ow j d' q
      exact ⟨a', ho', by rw [List.getElem?_set_ne (Ne.symm hj)]; exact g1, g2⟩
  · rcases get_set g1 with ⟨rfl, _, q⟩ | ⟨hj, q⟩
    · cases q
    · rcases get_set g2 with ⟨rfl, _, q'⟩ | ⟨hk, q'⟩
      · cases q'
      · rw [List.getElem?_set_ne (Ne.symm hj)] at g3
        rw [List.getElem?_set_ne (Ne.symm hk)] at g4
        exact S.ap j k d1 d2 b q q' g3 g4
  · rcases hi with hi | hi
    · rw [hi] at ha; cases ha
    · rw [List.getElem?_set_ne hi]; exact S.ioA a ha
theorem Sat.write (S : Sat K cm io B F0 F Γ σ H) {i : Nat} {d d' : D} {a : Addr} {ho' : HO} {F' H' : Hp} (e : Γ[i]? = some (.own d)) (ea : σ[i]? = some (some (.ref a)))
    (hh : ∀ b o, b ≠ a → H b = some o → H' b = some o ∨ (DL.ntb o = false ∧ ∃ ps, H' b = some (.tbl ps))) (ff : Same F F') (fh : Same F' H') (nw : ∀ p o, F' p = some o → F p = some o ∨ H p = none) (tb : TabsF cm F H → TabsF cm F' H') (ha : H' a = some ho') (h : OwnIs K cm F' ho' d') :
    Sat K cm io B F0 F' (Γ.set i (.own d')) σ H' := by
  obtain ⟨a0, ho, h1, h2, h3, h4, h5⟩ := S.ow i d e
  rw [ea] at h1; injection h1 with h1; injection h1 with h1; injection h1 with h1; subst h1
  have fn : ∀ b o, F b = none → H b = some o → F' b = none := fun b o z q => by
    cases w : F' b with
    | none => rfl
    | some u =>
      rcases nw b u w with y | y
      · rw [z] at y; cases y
      · rw [q] at y; cases y
  have hA : ∀ {b : Addr} {o : HO}, b ≠ a → H b = some o → DL.ntb o = true → H' b = some o := fun nb q n => by
    rcases hh _ _ nb q with y | ⟨y, _⟩
    · exact y
    · rw [n] at y; cases y
  refine ⟨fh, fun b o q => ?_, tb S.tb, S.f0.trans ff, fun p o q => ?_, by rw [List.length_set]; exact S.len, fun j d1 q => ?_, fun j d1 q => ?_, fun j k d1 d2 b g1 g2 g3 g4 => ?_, S.ioA⟩
  · have nb : b ≠ a := fun z => by subst z; rw [h3] at q; cases q
    rcases S.bh b o q with y | ⟨n, ps, y⟩
    · exact hh b o nb y
    · rcases hh b _ nb y with w | ⟨_, ps', w⟩
      · exact .inr ⟨n, ps, w⟩
      · exact .inr ⟨n, ps', w⟩
  · rcases nw p o q with y | y
    · exact S.nw p o y
    · exact .inr (S.bh.free y)
  · rcases get_set q with ⟨rfl, _, q⟩ | ⟨hj, q⟩
    · cases q
    · obtain ⟨v, g1, g2⟩ := S.dt j d1 q
      exact ⟨v, g1, g2.mono ff _⟩
  · rcases get_set q with ⟨rfl, _, q⟩ | ⟨hj, q⟩
    · injection q with q; subst q
      exact ⟨a, ho', ea, fn a _ h2 h4, h3, ha, h⟩
    · obtain ⟨a', ho1, g1, g2, g3, g4, g5⟩ := S.ow j d1 q
      have ne : a' ≠ a := fun z => hj (S.ap j i d1 d a q e (by rw [g1, z]) ea)
      exact ⟨a', ho1, g1, fn a' _ g2 g4, g3, hA ne g4 g5.ntb, g5.mono ff⟩
  · have key : ∀ (j : Nat) (d1 : D), (Γ.set i (.own d'))[j]? = some (.own d1) → ∃ d2 : D, Γ[j]? = some (.own d2) := fun j d1 g => by
      rcases get_set g with ⟨rfl, _, q⟩ | ⟨hj, q⟩
      · exact ⟨d, e⟩
      · exact ⟨d1, q⟩
    obtain ⟨x, gx⟩ := key j d1 g1
    obtain ⟨y, gy⟩ := key k d2 g2
    exact S.ap j k x y b gx gy g3 g4
theorem IsRf.opnd {v : V} {d : D} (S : Sat K cm io B F0 F Γ σ H) (h : IsRf K cm B F Γ σ H v (.own d)) : ∃ F', Same F F' ∧ Sat K cm io B F0 F' Γ σ H ∧ Is K cm F' v d := by
  obtain ⟨a, ho, rfl, h2, h3, h4, h5, h6⟩ := h
  exact ⟨_, .up h2, S.fr h2 h3 h4 h6 h5.ntb, h5.fr h2⟩
end
def opR : Rf → Rf
  | .own d => .dat d
  | r => r
def opnd (c : M Rf) : M Rf := bnd c fun r => ret (opR r)
def capR : Rf → M D
  | .dat d => ret d
  | .own d => ret d
  | .slot i => fun Γ => match Γ[i]? with
    | some (.own d) => some (.ok d, Γ.set i (.dat d))
    | _ => none
def cap (c : M Rf) : M D := bnd c capR
def rsv (Γ : List Sl) : Rf → Option D
  | .dat d => some d
  | .own d => none
  | .slot i => match Γ[i]? with
    | some (.own d) => some d
    | some (.dat d) => some d
    | _ => none
structure Tx where
  X : Cx
  cm : CM
  W : WX
  io : Option Addr
abbrev Tx.Sat (T : Tx) := DL.Sat T.X.K T.cm T.io
abbrev Tx.Is (T : Tx) := DL.Is T.X.K T.cm
def Run (T : Tx) (B F0 : Hp) {α : Type} (c : M α) (F : Hp) (Γ : List Sl) (σ : St) (H : Hp) (P : α → Hp → List Sl → Hp → Prop) : Prop :=
  T.Sat B F0 F Γ σ H ∧ match c Γ with
    | none => False
    | some (.ok a, Γ') => ∀ F' H', Same F F' → T.Sat B F0 F' Γ' σ H' → P a F' Γ' H'
    | some (.error e, Γ') => ∀ F' H' cls dx, Same F F' → T.Sat B F0 F' Γ' σ H' → IsExc T.X.K T.cm F' cls dx e → T.W cls dx σ H'
section
variable {T : Tx} {B F0 F : Hp} {Γ : List Sl} {σ : St} {H : Hp} {α β : Type}
theorem Run.mono {c : M α} {P P' : α → Hp → List Sl → Hp → Prop} (r : Run T B F0 c F Γ σ H P) (h : ∀ a F' Γ' H', Same F F' → T.Sat B F0 F' Γ' σ H' → P a F' Γ' H' → P' a F' Γ' H') : Run T B F0 c F Γ σ H P' := by
  obtain ⟨S, r⟩ := r
  refine ⟨S, ?_⟩
  rcases e : c Γ with _ | ⟨x | a, Γ'⟩
  · rw [e] at r; exact r
  · rw [e] at r; exact r
  · rw [e] at r
    exact fun F' H' q S' => h a F' Γ' H' q S' (r F' H' q S')
theorem Run.bnd {c : M α} {k : α → M β} {P : β → Hp → List Sl → Hp → Prop} (r : Run T B F0 (DL.bnd c k) F Γ σ H P) : Run T B F0 c F Γ σ H fun a F' Γ' H' => Run T B F0 (k a) F' Γ' σ H' P := by
  obtain ⟨S, r⟩ := r
  refine ⟨S, ?_⟩
  rcases e : c Γ with _ | ⟨x | a, Γ'⟩
  · rw [bnd_none e] at r; exact r
  · rw [bnd_err e] at r; exact r
  · rw [bnd_ok e] at r
    refine fun F' H' q S' => ⟨S', ?_⟩
    rcases e2 : k a Γ' with _ | ⟨x | b, Γ''⟩
    · rw [e2] at r; exact r
    · rw [e2] at r
      exact fun F'' H'' cls dx q2 S2 i => r F'' H'' cls dx (q.trans q2) S2 i
    · rw [e2] at r
      exact fun F'' H'' q2 S2 => r F'' H'' (q.trans q2) S2
theorem Run.ret {a : α} {P : α → Hp → List Sl → Hp → Prop} (r : Run T B F0 (DL.ret a) F Γ σ H P) : T.Sat B F0 F Γ σ H ∧ P a F Γ H := ⟨r.1, r.2 F H (.refl _) r.1⟩
theorem Run.step {c : M α} {P : α → Hp → List Sl → Hp → Prop} {F' H' : Hp} (r : Run T B F0 c F Γ σ H P) (q : Same F F') (S' : T.Sat B F0 F' Γ σ H') : Run T B F0 c F' Γ σ H' P := by
  obtain ⟨S, r⟩ := r
  refine ⟨S', ?_⟩
  rcases e : c Γ with _ | ⟨x | a, Γ'⟩
  · rw [e] at r; exact r
  · rw [e] at r
    exact fun F'' H'' cls dx q2 S2 i => r F'' H'' cls dx (q.trans q2) S2 i
  · rw [e] at r
    exact fun F'' H'' q2 S2 => r F'' H'' (q.trans q2) S2
end
def tS (T : Tx) (B F0 : Hp) (c : M Rf) : TE := fun σ H Q => ∃ F Γ, Run T B F0 c F Γ σ H fun r F' Γ' H' => ∀ v, IsRf T.X.K T.cm B F' Γ' σ H' v r → Q v H'
def tD (T : Tx) (B F0 : Hp) (c : M D) : TE := fun σ H Q => ∃ F Γ, Run T B F0 c F Γ σ H fun d F' Γ' H' => ∀ v, T.Is F' v d → Q v H'
def tT (T : Tx) (B F0 : Hp) (c : M Bool) : TT := fun σ H Q => ∃ F Γ, Run T B F0 c F Γ σ H fun b F' Γ' H' => Q b H'
def tA (T : Tx) (B F0 : Hp) (c : M (List D)) : TA := fun σ H Q => ∃ F Γ, Run T B F0 c F Γ σ H fun ds F' Γ' H' => ∀ vs, IsAll T.X.K T.cm F' vs ds → Q vs H'
def RE (T : Tx) (e : Expr) (c : M Rf) : Prop := ∀ B F0, PE T.X e (tS T B F0 c)
def RD (T : Tx) (e : Expr) (c : M D) : Prop := ∀ B F0, PE T.X e (tD T B F0 c)
def RT (T : Tx) (e : Expr) (c : M Bool) : Prop := ∀ B F0, PT T.X e (tT T B F0 c)
def RA (T : Tx) (es : List Expr) (c : M (List D)) : Prop := ∀ B F0, PA T.X es (tA T B F0 c)
theorem _root_.L2.PE.weak {X : Cx} {e : Expr} {t t' : TE} (h : PE X e t) (w : ∀ σ H Q, t' σ H Q → t σ H Q) : PE X e t' := ⟨fun pins s σ H Q I q => h.run pins s σ H Q I (w σ H Q q)⟩
theorem _root_.L2.PT.weak {X : Cx} {e : Expr} {t t' : TT} (h : PT X e t) (w : ∀ σ H Q, t' σ H Q → t σ H Q) : PT X e t' := ⟨fun pins s σ H Q I q => h.run pins s σ H Q I (w σ H Q q)⟩
theorem _root_.L2.PA.weak {X : Cx} {es : List Expr} {t t' : TA} (h : PA X es t) (w : ∀ σ H Q, t' σ H Q → t σ H Q) : PA X es t' := ⟨fun pos pins s σ H Q I q => h.run pos pins s σ H Q I (w σ H Q q)⟩
theorem _root_.L2.PS.weak {X : Cx} {e : Stmt} {t t' : TS} (h : PS X e t) (w : ∀ D σ H, t' D σ H → t D σ H) : PS X e t' := ⟨fun pins s σ H D I q => h.run pins s σ H D I (w D σ H q)⟩
theorem _root_.L2.PSs.weak {X : Cx} {e : List Stmt} {t t' : TS} (h : PSs X e t) (w : ∀ D σ H, t' D σ H → t D σ H) : PSs X e t' := ⟨fun pins s σ H D I q => h.run pins s σ H D I (w D σ H q)⟩
section
variable {T : Tx} {B F0 F : Hp} {Γ : List Sl} {σ : St} {H : Hp} {e : Expr} {c : M Rf}
theorem rd_of (h : RE T e c) : RD T e (cap c) := fun B F0 => (h B F0).weak fun σ H Q ⟨F, Γ, r⟩ => by
  refine ⟨F, Γ, r.bnd.mono fun r' F' Γ' H' q S' r2 v hv => ?_⟩
  cases r' with
  | dat d => exact r2.ret.2 v hv
  | own d =>
    obtain ⟨F2, q2, S2, i2⟩ := IsRf.opnd S' hv
    exact (r2.step q2 S2).ret.2 v i2
  | slot i =>
    obtain ⟨h1, d, h2⟩ := hv
    obtain ⟨_, r2⟩ := r2
    obtain ⟨a, ho, F2, g1, g2, rfl, g3, g4, g5⟩ := S'.frSlot h2
    rw [g1] at h1; injection h1 with h1; injection h1 with h1; subst h1
    unfold capR at r2
    simp only [h2] at r2
    exact r2 _ H' g3 g5 _ g4
theorem re_opnd (h : RE T e c) : RE T e (opnd c) := fun B F0 => (h B F0).weak fun σ H Q ⟨F, Γ, r⟩ => by
  refine ⟨F, Γ, r.bnd.mono fun r' F' Γ' H' q S' r2 v hv => ?_⟩
  cases r' with
  | dat d => exact r2.ret.2 v hv
  | own d =>
    obtain ⟨F2, q2, S2, i2⟩ := IsRf.opnd S' hv
    exact (r2.step q2 S2).ret.2 v i2
  | slot i => exact r2.ret.2 v hv
theorem IsRf.rsv {Γ' : List Sl} {F' H' : Hp} {v : V} {r : Rf} {d : D} (hv : IsRf T.X.K T.cm B F Γ σ H v r) (q : Same F F') (S' : T.Sat B F0 F' Γ' σ H') (e : DL.rsv Γ' r = some d) : IsT T.X.K T.cm F' H' v d := by
  cases r with
  | dat d' =>
    have e' : d' = d := Option.some.inj e
    subst e'
    exact .inl (Is.mono q _ hv)
  | own d' => cases e
  | slot i =>
    obtain ⟨h1, _⟩ := hv
    unfold DL.rsv at e
    simp only at e
    split at e
    · rename_i d' hd
      have e' : d' = d := Option.some.inj e
      subst e'
      obtain ⟨a, ho, g1, _, _, g4, g5⟩ := S'.ow i _ hd
      rw [g1] at h1; injection h1 with h1; injection h1 with h1; subst h1
      exact .inr ⟨a, ho, rfl, g4, g5⟩
    · rename_i d' hd
      have e' : d' = d := Option.some.inj e
      subst e'
      obtain ⟨w, g1, g2⟩ := S'.dt i _ hd
      rw [g1] at h1; injection h1 with h1; injection h1 with h1; subst h1
      exact .inl g2
    · cases e
end
end DL
namespace DL
open PySem L2
def okD : Nat → D → Bool
  | _, .non => true
  | _, .bl _ => true
  | _, .int _ => true
  | _, .str _ => true
  | n + 1, .lst xs => xs.all (okD n)
  | n + 1, .tup xs => xs.all (okD n)
  | _, _ => false
def eqL (r : D → D → Bool) : List D → List D → Bool
  | [], [] => true
  | x :: xs, y :: ys => r x y && eqL r xs ys
  | _, _ => false
def eqF : Nat → D → D → Bool
  | _, .non, .non => true
  | _, .bl a, .bl b => a == b
  | _, .bl a, .int j => (if a then 1 else 0) == j
  | _, .int i, .bl b => i == (if b then 1 else 0)
  | _, .int i, .int j => i == j
  | _, .str x, .str y => x == y
  | n + 1, .lst xs, .lst ys => eqL (eqF n) xs ys
  | n + 1, .tup xs, .tup ys => eqL (eqF n) xs ys
  | _, _, _ => false
mutual
def py : D → PyData
  | .non => .none
  | .bl b => .bool b
  | .int i => .int i
  | .str x => .str x
  | .lst xs => .list (pyAll xs)
  | .tup xs => .tuple (pyAll xs)
  | _ => .none
def pyAll : List D → List PyData
  | [] => []
  | x :: xs => py x :: pyAll xs
end
theorem py_plain : ∀ (n : Nat) (d : D), okD n d = true → (py d).plain = true ∧ (py d).depth ≤ n
  | n, .non, _ => by simp [py, PyData.plain, PyData.depth]
  | n, .bl _, _ => by simp [py, PyData.plain, PyData.depth]
  | n, .int _, _ => by simp [py, PyData.plain, PyData.depth]
  | n, .str _, _ => by simp [py, PyData.plain, PyData.depth]
  | 0, .lst _, h => by simp [okD] at h
  | 0, .tup _, h => by simp [okD] at h
  | n + 1, .lst xs, h => by
    have key : ∀ xs : List D, xs.all (okD n) = true → PyData.plainAll (pyAll xs) = true ∧ PyData.depthAll (pyAll xs) ≤ n := fun xs => by
      induction xs with
      | nil => intro _; simp [pyAll, PyData.plainAll, PyData.depthAll]
      | cons x xs ih =>
        intro h
        simp only [List.all_cons, Bool.and_eq_true] at h
        have h1 := py_plain n x h.1
        have h2 := ih h.2
        simp only [pyAll, PyData.plainAll, PyData.depthAll, h1.1, h2.1, Bool.and_self, true_and]
        omega
    have := key xs (by simpa [okD] using h)
    simp only [py, PyData.plain, PyData.depth, this.1, true_and]
    omega
  | n + 1, .tup xs, h => by
    have key : ∀ xs : List D, xs.all (okD n) = true → PyData.plainAll (pyAll xs) = true ∧ PyData.depthAll (pyAll xs) ≤ n := fun xs => by
      induction xs with
      | nil => intro _; simp [pyAll, PyData.plainAll, PyData.depthAll]
      | cons x xs ih =>
        intro h
        simp only [List.all_cons, Bool.and_eq_true] at h
        have h1 := py_plain n x h.1
        have h2 := ih h.2
        simp only [pyAll, PyData.plainAll, PyData.depthAll, h1.1, h2.1, Bool.and_self, true_and]
        omega
    have := key xs (by simpa [okD] using h)
    simp only [py, PyData.plain, PyData.depth, this.1, true_and]
    omega
  | n, .ty _, h => by cases n <;> simp [okD] at h
  | n, .cls _, h => by cases n <;> simp [okD] at h
  | n, .dic _ _, h => by cases n <;> simp [okD] at h
  | n, .dix _ _, h => by cases n <;> simp [okD] at h
  | n, .kn _, h => by cases n <;> simp [okD] at h
  | n, .ins _ _ _, h => by cases n <;> simp [okD] at h
  | n, .exc _ _ _, h => by cases n <;> simp [okD] at h
  | n, .lam _ _ _ _ _, h => by cases n <;> simp [okD] at h
theorem eqF_py : ∀ (n : Nat) (d e : D), okD n d = true → okD n e = true → PyData.eqv (py d) (py e) = eqF n d e := by
  intro n
  induction n with
  | zero =>
    intro d e h g
    cases d <;> first | (simp [okD] at h; done) | (cases e <;> first | (simp [okD] at g; done) | simp [py, PyData.eqv, eqF])
  | succ n ih =>
    have key : ∀ xs ys : List D, xs.all (okD n) = true → ys.all (okD n) = true → PyData.eqvAll (pyAll xs) (pyAll ys) = eqL (eqF n) xs ys := fun xs => by
      induction xs with
      | nil => intro ys _ _; cases ys <;> simp [pyAll, PyData.eqvAll, eqL]
      | cons x xs ih2 =>
        intro ys h g
        cases ys with
        | nil => simp [pyAll, PyData.eqvAll, eqL]
        | cons y ys =>
          simp only [List.all_cons, Bool.and_eq_true] at h g
          simp only [pyAll, PyData.eqvAll, eqL, ih x y h.1 g.1, ih2 ys h.2 g.2]
    intro d e h g
    cases d with
    | lst xs =>
      cases e with
      | lst ys => simp only [py, PyData.eqv, eqF]; exact key xs ys (by simpa [okD] using h) (by simpa [okD] using g)
      | _ => first | (simp [okD] at g; done) | simp [py, PyData.eqv, eqF]
    | tup xs =>
      cases e with
      | tup ys => simp only [py, PyData.eqv, eqF]; exact key xs ys (by simpa [okD] using h) (by simpa [okD] using g)
      | _ => first | (simp [okD] at g; done) | simp [py, PyData.eqv, eqF]
    | _ => first | (simp [okD] at h; done) | (cases e <;> first | (simp [okD] at g; done) | simp [py, PyData.eqv, eqF])
section
variable {K : PySem.W.Frag} {cm : CM} {F H : Hp}
theorem is_dp (hh : Same F H) : ∀ (n : Nat) (d : D) {v : V}, okD n d = true → IsT K cm F H v d → Dp K H v (py d) := by
  intro n
  induction n with
  | zero =>
    intro d v h i
    cases d <;> first | (simp [okD] at h; done) | skip
    · rw [i.non]; simp only [py]; exact .non
    · rw [i.bl]; simp only [py]; exact .bl _
    · rw [i.int]; simp only [py]; exact .int _
    · rw [i.str]; simp only [py]; exact .str _
  | succ n ih =>
    have key : ∀ (xs : List D) {vs : List V}, xs.all (okD n) = true → IsAll K cm F vs xs → DpAll K H vs (pyAll xs) := fun xs => by
      induction xs with
      | nil => intro vs _ i; cases i; simp only [pyAll]; exact .nil
      | cons x xs ih2 =>
        intro vs h i
        cases i with
        | cons i is =>
          simp only [List.all_cons, Bool.and_eq_true] at h
          simp only [pyAll]
          exact .cons (ih x h.1 (.inl i)) (ih2 h.2 is)
    intro d v h i
    cases d <;> first | (simp [okD] at h; done) | skip
    · rw [i.non]; simp only [py]; exact .non
    · rw [i.bl]; simp only [py]; exact .bl _
    · rw [i.int]; simp only [py]; exact .int _
    · rw [i.str]; simp only [py]; exact .str _
    · obtain ⟨a, vs, rfl, g1, g2⟩ := i.lst hh
      simp only [py]
      exact .lst g1 (key _ (by simpa [okD] using h) g2)
    · obtain ⟨a, vs, rfl, g1, g2⟩ := i.tup hh
      simp only [py]
      exact .tup g1 (key _ (by simpa [okD] using h) g2)
end
def Res (T : Tx) (F H : Hp) (Q : VK) : Option Rf → Prop
  | some (.dat d) => ∀ v F' H', Step T.cm F H F' H' → T.Is F' v d → Q v H'
  | some (.own d) => ∀ a ho F' H', Step T.cm F H F' H' → H a = none → F' a = none → H' a = some ho → OwnIs T.X.K T.cm F' ho d → Q (.ref a) H'
  | _ => False
def lift (o : Option Rf) : M Rf := fun Γ => match o with
  | some (.dat d) => some (.ok (.dat d), Γ)
  | some (.own d) => some (.ok (.own d), Γ)
  | _ => none
section
variable {T : Tx} {B F0 F : Hp} {Γ : List Sl} {σ : St} {H : Hp} {Q : VK}
theorem Run.lift {o : Option Rf} (r : Run T B F0 (DL.lift o) F Γ σ H fun r F' Γ' H' => ∀ v, IsRf T.X.K T.cm B F' Γ' σ H' v r → Q v H') : Res T F H Q o := by
  obtain ⟨S, r⟩ := r
  match o, r with
  | some (.dat d), r => exact fun v F' H' t i => r F' H' t.ff (S.step t) v i
  | some (.own d), r =>
    refine fun a ho F' H' t n n' e h => r F' H' t.ff (S.step t) _ ⟨a, ho, rfl, n', S.bh.free n, e, h, fun i e' hg hs => ?_⟩
    obtain ⟨a', ho', g1, _, _, g4, _⟩ := S.ow i e' hg
    rw [g1] at hs; injection hs with hs; injection hs with hs; injection hs with hs; subst hs
    rw [n] at g4; cases g4
  | some (.slot i), r => exact r
  | none, r => exact r
theorem Res.imp {F' H' : Hp} {Q' : VK} {o : Option Rf} (h : Res T F H Q o) (q : ∀ v H', Q v H' → Q' v H') : Res T F H Q' o := by
  match o, h with
  | some (.dat d), h => exact fun v F' H' t i => q _ _ (h v F' H' t i)
  | some (.own d), h => exact fun a ho F' H' t n n' e g => q _ _ (h a ho F' H' t n n' e g)
theorem Res.val {d : D} {v : V} (h : Res T F H Q (some (.dat d))) (s : Same F H) (i : T.Is F v d) : Q v H := h v F H (.refl s) i
end
def sVar (i : Nat) : M Rf := fun Γ => match Γ[i]? with
  | some (.dat d) => some (.ok (.dat d), Γ)
  | some (.own _) => some (.ok (.slot i), Γ)
  | _ => none
def sK (d : D) : M Rf := ret (.dat d)
section
variable {T : Tx} {e a b c : Expr} {ca cb cc : M Rf} {pos : Pos}
theorem re_var (i : Nat) {x : Str} (hN : T.X.N[i]? = some x := by rfl) (hv : Vis T.X.env.scope x := by first | exact Or.inl rfl | exact Or.inr (Or.inl rfl) | exact Or.inr (Or.inr rfl)) (hd : (x == ("__debug__" : Str)) = false := by decide)
    (hcd : (x == ("__classdict__" : Str)) = false := by decide) : RE T (.Name x pos) (sVar i) := fun B F0 => (pe_var hN hv hd hcd).weak fun σ H Q ⟨F, Γ, S, r⟩ => by
  unfold sVar at r
  split at r
  · exact r.elim
  · rename_i a Γ' e
    split at e
    · rename_i d hd
      injection e with e; injection e with e1 e2; injection e1 with e1; subst e1; subst e2
      obtain ⟨v, h1, h2⟩ := S.dt i d hd
      exact ⟨v, h1, r F H (.refl _) S v h2⟩
    · rename_i d hd
      injection e with e; injection e with e1 e2; injection e1 with e1; subst e1; subst e2
      obtain ⟨a, ho, h1, _⟩ := S.ow i d hd
      exact ⟨_, h1, r F H (.refl _) S _ ⟨h1, d, hd⟩⟩
    · cases e
  · rename_i a Γ' e
    split at e
    · cases e
    · cases e
    · cases e
theorem re_const {v : V} {d : D} (h : PE T.X e (tC v)) (i : ∀ F, T.Is F v d) : RE T e (sK d) := fun B F0 => h.weak fun σ H Q ⟨F, Γ, r⟩ => r.ret.2 v (i F)
theorem re_int {i : Int} {j : Nat} : RE T (.Constant (.int i) j pos) (sK (.int i)) := re_const pe_int fun _ => .int i
theorem re_str {x : Str} {j : Nat} : RE T (.Constant (.str x) j pos) (sK (.str x)) := re_const pe_str fun _ => .str x
theorem re_bl {b : Bool} {j : Nat} : RE T (.Constant (.bool b) j pos) (sK (.bl b)) := re_const pe_bl fun _ => .bl b
theorem re_non {j : Nat} : RE T (.Constant .none j pos) (sK .non) := re_const pe_non fun _ => .non
theorem re_glob {x : Str} {v : V} {u : Value} {d : D} (hm : T.X.mg x = some u) (r : RelV v u) (i : ∀ F, T.Is F v d) (hg : Gl T.X x := by rfl) (hd : (x == ("__debug__" : Str)) = false := by decide) : RE T (.Name x pos) (sK d) :=
  re_const (pe_glob hg hm r hd) i
theorem re_ty {x : Str} {n : String} (hm : T.X.mg x = none) (hg : Gl T.X x := by rfl) (hv : bootBuiltins x = some (.type n) := by decide +kernel) (hn : x ≠ "__name__" := by decide) (hd : (x == ("__debug__" : Str)) = false := by decide) : RE T (.Name x pos) (sK (.ty n)) :=
  re_const (v := .ty n) (pe_bltn hg hm hv rfl hn hd) fun _ => .ty n
def app2 (f : D → D → Option Rf) (x y : Rf) : M Rf := fun Γ => match rsv Γ x, rsv Γ y with
  | some d, some e => lift (f d e) Γ
  | _, _ => none
def sBin (f : D → D → Option Rf) (a b : M Rf) : M Rf := bnd (opnd a) fun x => bnd (opnd b) fun y => app2 f x y
def rD2 (T : Tx) (f : D → D → Option Rf) : R2 := fun x y H Q => ∃ F d1 d2, Same F H ∧ IsT T.X.K T.cm F H x d1 ∧ IsT T.X.K T.cm F H y d2 ∧ Res T F H Q (f d1 d2)
def OpD (T : Tx) (g : Value → Value → Sem Value) (f : D → D → Option Rf) : Prop := OpR T.X g (rD2 T f)
theorem Run.app2 {B F0 F1 F : Hp} {Γ1 Γ : List Sl} {σ : St} {H1 H : Hp} {Q : VK} {f : D → D → Option Rf} {x y : Rf} {v u : V} (r : Run T B F0 (DL.app2 f x y) F Γ σ H fun r F' Γ' H' => ∀ v, IsRf T.X.K T.cm B F' Γ' σ H' v r → Q v H')
    (hv : IsRf T.X.K T.cm B F1 Γ1 σ H1 v x) (q : Same F1 F) (hu : IsRf T.X.K T.cm B F Γ σ H u y) : rD2 T f v u H Q := by
  obtain ⟨S, r⟩ := r
  rcases e1 : rsv Γ x with _ | d1
  · simp only [DL.app2, e1] at r
  · rcases e2 : rsv Γ y with _ | d2
    · simp only [DL.app2, e1, e2] at r
    · exact ⟨F, d1, d2, S.fh, hv.rsv q S e1, hu.rsv (.refl _) S e2, Run.lift (Γ := Γ) ⟨S, by simpa only [DL.app2, e1, e2] using r⟩⟩
theorem op_weak {f : D → D → Option Rf} {B F0 : Hp} {σ : St} {H : Hp} {Q : VK} (h : tS T B F0 (sBin f ca cb) σ H Q) : tOp (rD2 T f) (tS T B F0 (opnd ca)) (tS T B F0 (opnd cb)) σ H Q := by
  obtain ⟨F, Γ, r⟩ := h
  exact ⟨F, Γ, r.bnd.mono fun x F1 Γ1 H1 q1 S1 r1 v hv => ⟨F1, Γ1, r1.bnd.mono fun y F2 Γ2 H2 q2 S2 r2 u hu => r2.app2 hv q2 hu⟩⟩
theorem re_bin {op : Operator} {f : D → D → Option Rf} (ho : OpD T (binaryOp op) f) (ha : RE T a ca) (hb : RE T b cb) : RE T (.BinOp a op b pos) (sBin f ca cb) := fun B F0 =>
  (pe_op ho (re_opnd ha B F0) (re_opnd hb B F0)).weak fun _ _ _ h => op_weak h
theorem re_cmp {op : CmpOp} {f : D → D → Option Rf} (ho : OpD T (compareOp op) f) (ha : RE T a ca) (hb : RE T b cb) (hm : behindInMarks op b = false := by first | exact nomark _ | rfl) : RE T (.Compare a [op] [b] pos) (sBin f ca cb) := fun B F0 =>
  (pe_cmpR ho (re_opnd ha B F0) (re_opnd hb B F0) hm).weak fun _ _ _ h => op_weak h
def asB : Rf → M Bool
  | .dat (.bl b) => ret b
  | _ => fail
def sB (c : M Rf) : M Bool := bnd c asB
theorem b_weak {c : M Rf} {B F0 : Hp} {σ : St} {H : Hp} {Q : Bool → Hp → Prop} (h : tT T B F0 (sB c) σ H Q) : tS T B F0 c σ H fun x H' => ∃ k, x = .bl k ∧ Q k H' := by
  obtain ⟨F, Γ, r⟩ := h
  refine ⟨F, Γ, r.bnd.mono fun x F1 Γ1 H1 q1 S1 r1 v hv => ?_⟩
  match x, hv, r1 with
  | .dat (.bl b), hv, r1 => exact ⟨b, IsT.bl (H := H1) (.inl hv), r1.ret.2⟩
  | .dat .non, _, r1 => exact r1.2.elim
  | .dat (.int _), _, r1 => exact r1.2.elim
  | .dat (.str _), _, r1 => exact r1.2.elim
  | .dat (.ty _), _, r1 => exact r1.2.elim
  | .dat (.cls _), _, r1 => exact r1.2.elim
  | .dat (.lst _), _, r1 => exact r1.2.elim
  | .dat (.tup _), _, r1 => exact r1.2.elim
  | .dat (.dic _ _), _, r1 => exact r1.2.elim
  | .dat (.dix _ _), _, r1 => exact r1.2.elim
  | .dat (.kn _), _, r1 => exact r1.2.elim
  | .dat (.ins _ _ _), _, r1 => exact r1.2.elim
  | .dat (.exc _ _ _), _, r1 => exact r1.2.elim
  | .own _, _, r1 => exact r1.2.elim
  | .slot _, _, r1 => exact r1.2.elim
theorem rt_cmp {op : CmpOp} {f : D → D → Option Rf} (ho : OpD T (compareOp op) f) (ha : RE T a ca) (hb : RE T b cb) (hm : behindInMarks op b = false := by first | exact nomark _ | rfl) : RT T (.Compare a [op] [b] pos) (sB (sBin f ca cb)) := fun B F0 =>
  (pt_cmpR ho (re_opnd ha B F0) (re_opnd hb B F0) hm).weak fun _ _ _ h => op_weak (b_weak h)
def sChain (f g : D → D → Option Rf) (a b c : M Rf) : M Rf := bnd (opnd a) fun x => bnd (opnd b) fun y => bnd (app2 f x y) fun r => bnd (asB r) fun k =>
  if k then bnd (opnd c) fun z => app2 g y z else ret (.dat (.bl false))
theorem chain_weak {f g : D → D → Option Rf} {B F0 : Hp} {σ : St} {H : Hp} {Q : VK} (h : tS T B F0 (sChain f g ca cb cc) σ H Q) : tChain (rD2 T f) (rD2 T g) (tS T B F0 (opnd ca)) (tS T B F0 (opnd cb)) (tS T B F0 (opnd cc)) σ H Q := by
  obtain ⟨F, Γ, r⟩ := h
  refine ⟨F, Γ, r.bnd.mono fun x F1 Γ1 H1 q1 S1 r1 v hv => ⟨F1, Γ1, r1.bnd.mono fun y F2 Γ2 H2 q2 S2 r2 u hu => ?_⟩⟩
  have r3 : Run T B F0 (DL.app2 f x y) F2 Γ2 σ H2 fun r F' Γ' H' => ∀ w, IsRf T.X.K T.cm B F' Γ' σ H' w r → ∃ k, w = .bl k ∧ (if k = true then tS T B F0 (opnd cc) σ H' fun w' H4 => rD2 T g u w' H4 Q else Q (.bl false) H') := by
    refine r2.bnd.mono fun z F3 Γ3 H3 q3 S3 r4 w hw => ?_
    match z, hw, r4 with
    | .dat (.bl b), hw, r4 =>
      refine ⟨b, IsT.bl (H := H3) (.inl hw), ?_⟩
      have r5 := r4.bnd.ret.2
      cases b with
      | true =>
        rw [if_pos rfl]
        refine ⟨F3, Γ3, Run.mono (Run.bnd (by simpa using r5)) fun z' F4 Γ4 H4 q4 S4 r6 w' hw' => ?_⟩
        have hu' : IsRf T.X.K T.cm B F2 Γ2 σ H2 u y := hu
        exact r6.app2 hu' (q3.trans q4) hw'
      | false =>
        rw [if_neg (by simp)]
        rw [if_neg (by simp)] at r5
        exact r5.ret.2 _ (.bl false)
    | .dat .non, _, r1 => exact r1.bnd.2.elim
    | .dat (.int _), _, r1 => exact r1.bnd.2.elim
    | .dat (.str _), _, r1 => exact r1.bnd.2.elim
    | .dat (.ty _), _, r1 => exact r1.bnd.2.elim
    | .dat (.cls _), _, r1 => exact r1.bnd.2.elim
    | .dat (.lst _), _, r1 => exact r1.bnd.2.elim
    | .dat (.tup _), _, r1 => exact r1.bnd.2.elim
    | .dat (.dic _ _), _, r1 => exact r1.bnd.2.elim
    | .dat (.dix _ _), _, r1 => exact r1.bnd.2.elim
    | .dat (.kn _), _, r1 => exact r1.bnd.2.elim
    | .dat (.ins _ _ _), _, r1 => exact r1.bnd.2.elim
    | .dat (.exc _ _ _), _, r1 => exact r1.bnd.2.elim
    | .own _, _, r1 => exact r1.bnd.2.elim
    | .slot _, _, r1 => exact r1.bnd.2.elim
  exact r3.app2 hv q2 hu
theorem rt_chain {op op' : CmpOp} {f g : D → D → Option Rf} (ho : OpD T (compareOp op) f) (ho' : OpD T (compareOp op') g) (ha : RE T a ca) (hb : RE T b cb) (hc : RE T c cc) (hm : lastMarks [op, op'] [b, c] = false := by rfl) : RT T (.Compare a [op, op'] [b, c] pos) (sB (sChain f g ca cb cc)) := fun B F0 =>
  (pt_chain ho ho' (re_opnd ha B F0) (re_opnd hb B F0) (re_opnd hc B F0) hm).weak fun _ _ _ h => chain_weak (b_weak h)
def sAndT (a b : M Bool) : M Bool := bnd a fun k => if k then b else ret false
def sOrT (a b : M Bool) : M Bool := bnd a fun k => if k then ret true else b
def sNotT (a : M Bool) : M Bool := bnd a fun k => ret !k
variable {ta tb : M Bool} {rest : List Expr}
def RW (T : Tx) (e : Expr) (c : M Bool) : Prop := ∀ B F0, PW T.X e (tT T B F0 c)
theorem RW.rt (h : RW T e ta) : RT T e ta := fun B F0 => (h B F0).pt
theorem rw_and1 (h : RT T a ta) : RW T (.BoolOp .And [a] pos) ta := fun B F0 => pw_and1 (h B F0)
theorem rw_or1 (h : RT T a ta) : RW T (.BoolOp .Or [a] pos) ta := fun B F0 => pw_or1 (h B F0)
theorem rw_and (h : RT T a ta) (g : RW T (.BoolOp .And (b :: rest) pos) tb) : RW T (.BoolOp .And (a :: b :: rest) pos) (sAndT ta tb) := fun B F0 =>
  ⟨fun wh pins s σ H Q I ⟨F, Γ, r⟩ => (pw_and (h B F0) (g B F0)).run wh pins s σ H Q I ⟨F, Γ, r.bnd.mono fun k F1 Γ1 H1 q1 S1 r1 => by
    cases k with
    | true => rw [if_pos rfl]; exact ⟨F1, Γ1, by simpa using r1⟩
    | false =>
      rw [if_neg (by simp)]
      rw [if_neg (by simp)] at r1
      exact r1.ret.2⟩⟩
theorem rw_or (h : RT T a ta) (g : RW T (.BoolOp .Or (b :: rest) pos) tb) : RW T (.BoolOp .Or (a :: b :: rest) pos) (sOrT ta tb) := fun B F0 =>
  ⟨fun wh pins s σ H Q I ⟨F, Γ, r⟩ => (pw_or (h B F0) (g B F0)).run wh pins s σ H Q I ⟨F, Γ, r.bnd.mono fun k F1 Γ1 H1 q1 S1 r1 => by
    cases k with
    | false => rw [if_neg (by simp)]; exact ⟨F1, Γ1, by simpa using r1⟩
    | true =>
      rw [if_pos rfl]
      rw [if_pos rfl] at r1
      exact r1.ret.2⟩⟩
theorem rt_not (h : RT T a ta) : RT T (.UnaryOp .Not a pos) (sNotT ta) := fun B F0 => (pt_not (h B F0)).weak fun σ H Q ⟨F, Γ, r⟩ => ⟨F, Γ, r.bnd.mono fun k F1 Γ1 H1 q1 S1 r1 => r1.ret.2⟩
theorem rt_val (h : RE T e ca) (he : ∀ whole, isTrue e T.X.env whole = (do let v ← whole; standAt e.pos; holding [v] (truthy v)) := by intro _; rfl) : RT T e (sB ca) := fun B F0 =>
  (pt_val (h B F0) he).weak fun σ H Q q => b_weak q
def sAndV (a b : M Rf) : M Rf := bnd (sB a) fun k => if k then b else ret (.dat (.bl false))
def sOrV (a b : M Rf) : M Rf := bnd (sB a) fun k => if k then ret (.dat (.bl true)) else b
def sIfE (t : M Bool) (a b : M Rf) : M Rf := bnd t fun k => if k then a else b
theorem re_one {op : BoolOp} (h : RE T a ca) : RE T (.BoolOp op [a] pos) ca := fun B F0 => pe_one (h B F0)
theorem b_weak2 {c : M Rf} {k : Bool → M Rf} {B F0 : Hp} {σ : St} {H : Hp} {Q : VK} (h : tS T B F0 (bnd (sB c) k) σ H Q) : tS T B F0 c σ H fun x H' => ∃ b, x = .bl b ∧ tS T B F0 (k b) σ H' Q := by
  obtain ⟨F, Γ, r⟩ := h
  exact b_weak ⟨F, Γ, r.bnd.mono fun b F1 Γ1 H1 q1 S1 r1 => ⟨F1, Γ1, r1⟩⟩
theorem ret_weak {B F0 : Hp} {σ : St} {H : Hp} {Q : VK} {d : D} {v : V} (i : ∀ F, T.Is F v d) (h : tS T B F0 (ret (.dat d)) σ H Q) : Q v H := by
  obtain ⟨F, Γ, r⟩ := h
  exact r.ret.2 v (i F)
theorem re_and (h : RE T a ca) (g : RE T (.BoolOp .And (b :: rest) pos) cb) : RE T (.BoolOp .And (a :: b :: rest) pos) (sAndV ca cb) := fun B F0 =>
  (pe_and (h B F0) (g B F0)).weak fun σ H Q q => by
    have q2 := b_weak2 q
    obtain ⟨F, Γ, r⟩ := q2
    refine ⟨F, Γ, r.mono fun x F1 Γ1 H1 q1 S1 r1 v hv => ?_⟩
    obtain ⟨k, e, r2⟩ := r1 v hv
    refine ⟨k, e, ?_⟩
    cases k with
    | true => simpa using r2
    | false => rw [if_neg (by simp)]; exact ret_weak (fun _ => .bl false) (by simpa using r2)
theorem re_orV (h : RE T a ca) (g : RE T (.BoolOp .Or (b :: rest) pos) cb) : RE T (.BoolOp .Or (a :: b :: rest) pos) (sOrV ca cb) := fun B F0 =>
  (pe_or (h B F0) (g B F0)).weak fun σ H Q q => by
    have q2 := b_weak2 q
    obtain ⟨F, Γ, r⟩ := q2
    refine ⟨F, Γ, r.mono fun x F1 Γ1 H1 q1 S1 r1 v hv => ?_⟩
    obtain ⟨k, e, r2⟩ := r1 v hv
    refine ⟨k, e, ?_⟩
    cases k with
    | true => rw [if_pos rfl]; exact ret_weak (fun _ => .bl true) (by simpa using r2)
    | false => simpa using r2
theorem re_ifE (h : RT T c ta) (ha : RE T a ca) (hb : RE T b cb) : RE T (.IfExp c a b pos) (sIfE ta ca cb) := fun B F0 =>
  (pe_ifExp (h B F0) (ha B F0) (hb B F0)).weak fun σ H Q ⟨F, Γ, r⟩ => ⟨F, Γ, r.bnd.mono fun k F1 Γ1 H1 q1 S1 r1 => by
    cases k with
    | true => rw [if_pos rfl]; exact ⟨F1, Γ1, by simpa using r1⟩
    | false => rw [if_neg (by simp)]; exact ⟨F1, Γ1, by simpa using r1⟩⟩
def isN : Rf → Bool
  | .dat .non => true
  | _ => false
def sIsN (c : M Rf) : M Rf := bnd c fun r => ret (.dat (.bl (isN r)))
theorem isN_iff {B F : Hp} {Γ : List Sl} {σ : St} {H : Hp} {v : V} {r : Rf} (S : T.Sat B B F Γ σ H ∨ ∃ F0, T.Sat B F0 F Γ σ H) (h : IsRf T.X.K T.cm B F Γ σ H v r) : decide (v = .non) = isN r := by
  have key : ∀ d, T.Is F v d → d ≠ .non → v ≠ .non := fun d i hd hv => by
    subst hv
    cases i with
    | non => exact hd rfl
  match r, h with
  | .dat .non, h => rw [IsT.non (H := H) (.inl h)]; rfl
  | .dat (.bl _), h => exact decide_eq_false (key _ h (by simp))
  | .dat (.int _), h => exact decide_eq_false (key _ h (by simp))
  | .dat (.str _), h => exact decide_eq_false (key _ h (by simp))
  | .dat (.ty _), h => exact decide_eq_false (key _ h (by simp))
  | .dat (.cls _), h => exact decide_eq_false (key _ h (by simp))
  | .dat (.lst _), h => exact decide_eq_false (key _ h (by simp))
  | .dat (.tup _), h => exact decide_eq_false (key _ h (by simp))
  | .dat (.dic _ _), h => exact decide_eq_false (key _ h (by simp))
  | .dat (.dix _ _), h => exact decide_eq_false (key _ h (by simp))
  | .dat (.kn _), h => exact decide_eq_false (key _ h (by simp))
  | .dat (.ins _ _ _), h => exact decide_eq_false (key _ h (by simp))
  | .dat (.exc _ _ _), h => exact decide_eq_false (key _ h (by simp))
  | .dat (.lam _ _ _ _ _), h => exact decide_eq_false (key _ h (by simp))
  | .own d, h => obtain ⟨a, ho, rfl, _⟩ := h; rfl
  | .slot i, h =>
    obtain ⟨h1, d, h2⟩ := h
    have : ∃ a, v = .ref a := by
      rcases S with S | ⟨F0, S⟩
      · obtain ⟨a, ho, g1, _⟩ := S.ow i d h2
        rw [g1] at h1; injection h1 with h1; injection h1 with h1; exact ⟨a, h1.symm⟩
      · obtain ⟨a, ho, g1, _⟩ := S.ow i d h2
        rw [g1] at h1; injection h1 with h1; injection h1 with h1; exact ⟨a, h1.symm⟩
    obtain ⟨a, rfl⟩ := this
    rfl
theorem pc_is_weak {B F0 : Hp} {σ : St} {H : Hp} {Q : VK} {ca : M Rf} {g : Bool → Bool} (h : tS T B F0 (bnd ca fun r => ret (.dat (.bl (g (isN r))))) σ H Q) : tS T B F0 ca σ H fun x H1 => Q (.bl (g (decide (x = .non)))) H1 := by
  obtain ⟨F, Γ, r⟩ := h
  refine ⟨F, Γ, r.bnd.mono fun x F1 Γ1 H1 q1 S1 r1 v hv => ?_⟩
  show Q (.bl (g (decide (v = .non)))) H1
  rw [isN_iff (.inr ⟨F0, S1⟩) hv]
  exact r1.ret.2 _ (.bl _)
theorem re_isN {j : Nat} {pos' : Pos} (ha : RE T a ca) : RE T (.Compare a [.Is] [.Constant .none j pos'] pos) (sIsN ca) := fun B F0 => (pe_cmp (pc_isN (ha B F0)) rfl).weak fun σ H Q h => pc_is_weak (g := id) h
def sIsT (c : M Rf) : M Bool := bnd c fun r => ret (isN r)
theorem rt_isN {j : Nat} {pos' : Pos} (ha : RE T a ca) : RT T (.Compare a [.Is] [.Constant .none j pos'] pos) (sIsT ca) := fun B F0 => (pt_cmp (pc_isN (ha B F0)) rfl).weak fun σ H Q ⟨F, Γ, r⟩ =>
  ⟨F, Γ, r.bnd.mono fun x F1 Γ1 H1 q1 S1 r1 v hv => ⟨_, rfl, by rw [isN_iff (.inr ⟨F0, S1⟩) hv]; exact r1.ret.2⟩⟩
end
end DL
namespace DL
open PySem L2
abbrev big : Nat := 16777216
theorem big_eq : sizeLine = big := sizeLine_eq
theorem le_big {n : Nat} (h : n ≤ big) : n ≤ sizeLine := by rw [big_eq]; exact h
theorem lt_big {n : Nat} (h : n < big) : n < sizeLine := by rw [big_eq]; exact h
def sNil : M (List D) := ret []
def sCons (a : M D) (r : M (List D)) : M (List D) := bnd a fun d => bnd r fun ds => ret (d :: ds)
section
variable {T : Tx} {e : Expr} {es : List Expr} {ca : M Rf} {cs : M (List D)} {pos : Pos}
theorem ra_nil : RA T [] sNil := fun B F0 => pa_nil.weak fun σ H Q ⟨F, Γ, r⟩ => r.ret.2 [] .nil
theorem ra_cons (ha : RE T e ca) (hr : RA T es cs) (hs : starEach (e :: es) T.X.env = (false, eval e T.X.env) :: starEach es T.X.env := by rfl) : RA T (e :: es) (sCons (cap ca) cs) := fun B F0 =>
  (pa_cons (rd_of ha B F0) (hr B F0) hs).weak fun σ H Q ⟨F, Γ, r⟩ => ⟨F, Γ, r.bnd.mono fun d F1 Γ1 H1 q1 S1 r1 v hv => ⟨F1, Γ1, r1.bnd.mono fun ds F2 Γ2 H2 q2 S2 r2 vs hvs =>
    r2.ret.2 _ (.cons (hv.mono q2 _) hvs)⟩⟩
def mkTup (ds : List D) : Option Rf := if ds.length ≤ big then some (.dat (.tup ds)) else none
def mkLst (ds : List D) : Option Rf := if ds.length ≤ big then some (.own (.lst ds)) else none
def sTup (c : M (List D)) : M Rf := bnd c fun ds => lift (mkTup ds)
def sLst (c : M (List D)) : M Rf := bnd c fun ds => lift (mkLst ds)
theorem Res.newTup {F H : Hp} {Q : VK} {ds : List D} {vs : List V} (h : Res T F H Q (some (.dat (.tup ds)))) (s : Same F H) (i : IsAll T.X.K T.cm F vs ds) : ∀ p, H p = none → Q (.ref p) (upd H p (.tup vs)) := fun p n =>
  h _ _ _ (.new s n) (.ktup upd_same (i.mono (.up (s.free n)) _))
theorem Res.newLst {F H : Hp} {Q : VK} {ds : List D} {vs : List V} (h : Res T F H Q (some (.own (.lst ds)))) (s : Same F H) (i : IsAll T.X.K T.cm F vs ds) : ∀ p, H p = none → Q (.ref p) (upd H p (.lst vs)) := fun p n =>
  h _ _ _ _ (.newOwn s n) n (s.free n) upd_same (.lst i)
theorem re_tup {x1} (h : RA T es cs) : RE T (.Tuple es x1 pos) (sTup cs) := fun B F0 => (pe_tup (h B F0)).weak fun σ H Q ⟨F, Γ, r⟩ => ⟨F, Γ, r.bnd.mono fun ds F1 Γ1 H1 q1 S1 r1 vs hvs => by
  have r2 := r1.lift
  unfold mkTup at r2
  split at r2
  · rename_i hl
    exact ⟨by rw [hvs.length]; exact le_big hl, r2.newTup S1.fh hvs⟩
  · exact r2.elim⟩
theorem re_lst (h : RA T es cs) : RE T (.List es pos) (sLst cs) := fun B F0 => (pe_lst (h B F0)).weak fun σ H Q ⟨F, Γ, r⟩ => ⟨F, Γ, r.bnd.mono fun ds F1 Γ1 H1 q1 S1 r1 vs hvs => by
  have r2 := r1.lift
  unfold mkLst at r2
  split at r2
  · rename_i hl
    exact ⟨by rw [hvs.length]; exact le_big hl, r2.newLst S1.fh hvs⟩
  · exact r2.elim⟩
end
def IsOp (K : PySem.W.Frag) (cm : CM) (F : Hp) (σ : St) (v : V) : Rf → Prop
  | .dat d => Is K cm F v d
  | .own _ => False
  | .slot i => σ[i]? = some (some v)
def IsOps (K : PySem.W.Frag) (cm : CM) (F : Hp) (σ : St) : List V → List Rf → Prop
  | [], [] => True
  | v :: vs, r :: rs => IsOp K cm F σ v r ∧ IsOps K cm F σ vs rs
  | _, _ => False
theorem IsOp.mono {K : PySem.W.Frag} {cm : CM} {F F' : Hp} {σ : St} {v : V} {r : Rf} (q : Same F F') (h : IsOp K cm F σ v r) : IsOp K cm F' σ v r := by
  cases r with
  | dat d => exact Is.mono q _ h
  | own d => exact h
  | slot i => exact h
theorem IsOps.mono {K : PySem.W.Frag} {cm : CM} {F F' : Hp} {σ : St} (q : Same F F') : ∀ {vs : List V} {rs : List Rf}, IsOps K cm F σ vs rs → IsOps K cm F' σ vs rs
  | [], [], _ => trivial
  | _ :: _, _ :: _, h => ⟨h.1.mono q, IsOps.mono q h.2⟩
  | [], _ :: _, h => h.elim
  | _ :: _, [], h => h.elim
def AllT (K : PySem.W.Frag) (cm : CM) (F H : Hp) : List V → List D → Prop
  | [], [] => True
  | v :: vs, d :: ds => IsT K cm F H v d ∧ AllT K cm F H vs ds
  | _, _ => False
def rsvs (Γ : List Sl) : List Rf → Option (List D)
  | [] => some []
  | r :: rs => match rsv Γ r, rsvs Γ rs with
    | some d, some ds => some (d :: ds)
    | _, _ => none
def oNil : M (List Rf) := ret []
def oCons (a : M Rf) (r : M (List Rf)) : M (List Rf) := bnd (opnd a) fun d => bnd r fun ds => ret (d :: ds)
def appN (f : List D → Option Rf) (rs : List Rf) : M Rf := fun Γ => match rsvs Γ rs with
  | some ds => lift (f ds) Γ
  | none => none
def sCB (f : List D → Option Rf) (c : M (List Rf)) : M Rf := bnd c (appN f)
def tAO (T : Tx) (B F0 : Hp) (c : M (List Rf)) : TA := fun σ H Q => ∃ F Γ, Run T B F0 c F Γ σ H fun rs F' Γ' H' => ∀ vs, IsOps T.X.K T.cm F' σ vs rs → Q vs H'
def RAO (T : Tx) (es : List Expr) (c : M (List Rf)) : Prop := ∀ B F0, PA T.X es (tAO T B F0 c)
def rDN (T : Tx) (f : List D → Option Rf) : List V → Hp → VK → Prop := fun vs H Q => ∃ F ds, Same F H ∧ AllT T.X.K T.cm F H vs ds ∧ Res T F H Q (f ds)
def CallD (T : Tx) (g : Value) (f : List D → Option Rf) : Prop := CallR T.X g (rDN T f)
section
variable {T : Tx} {e : Expr} {es : List Expr} {ca : M Rf} {cs : M (List Rf)} {pos p : Pos} {x : Str} {f : List D → Option Rf}
theorem IsRf.op {B F : Hp} {Γ : List Sl} {σ : St} {H : Hp} {v : V} {r : Rf} (h : IsRf T.X.K T.cm B F Γ σ H v (opR r)) : IsOp T.X.K T.cm F σ v (opR r) := by
  cases r with
  | dat d => exact h
  | own d => exact h
  | slot i => exact h.1
theorem IsOp.rsv {B F0 F : Hp} {Γ : List Sl} {σ : St} {H : Hp} {v : V} {r : Rf} {d : D} (S : T.Sat B F0 F Γ σ H) (h : IsOp T.X.K T.cm F σ v r) (e : DL.rsv Γ r = some d) : IsT T.X.K T.cm F H v d := by
  cases r with
  | dat d' =>
    have e' : d' = d := Option.some.inj e
    subst e'
    exact .inl h
  | own d' => cases e
  | slot i =>
    have h1 : σ[i]? = some (some v) := h
    unfold DL.rsv at e
    simp only at e
    split at e
    · rename_i d' hd
      have e' : d' = d := Option.some.inj e
      subst e'
      obtain ⟨a, ho, g1, _, _, g4, g5⟩ := S.ow i _ hd
      rw [g1] at h1; injection h1 with h1; injection h1 with h1; subst h1
      exact .inr ⟨a, ho, rfl, g4, g5⟩
    · rename_i d' hd
      have e' : d' = d := Option.some.inj e
      subst e'
      obtain ⟨w, g1, g2⟩ := S.dt i _ hd
      rw [g1] at h1; injection h1 with h1; injection h1 with h1; subst h1
      exact .inl g2
    · cases e
theorem IsOps.rsvs {B F0 F : Hp} {Γ : List Sl} {σ : St} {H : Hp} (S : T.Sat B F0 F Γ σ H) : ∀ {vs : List V} {rs : List Rf} {ds : List D}, IsOps T.X.K T.cm F σ vs rs → DL.rsvs Γ rs = some ds → AllT T.X.K T.cm F H vs ds
  | [], [], ds, _, e => by
    simp only [DL.rsvs, Option.some.injEq] at e; subst e; exact trivial
  | v :: vs, r :: rs, ds, h, e => by
    unfold DL.rsvs at e
    split at e
    · rename_i d ds' e1 e2
      simp only [Option.some.injEq] at e; subst e
      exact ⟨h.1.rsv S e1, IsOps.rsvs S h.2 e2⟩
    · cases e
  | [], _ :: _, _, h, _ => h.elim
  | _ :: _, [], _, h, _ => h.elim
theorem ro_nil : RAO T [] oNil := fun B F0 => pa_nil.weak fun σ H Q ⟨F, Γ, r⟩ => r.ret.2 [] trivial
theorem ro_cons (ha : RE T e ca) (hr : RAO T es cs) (hs : starEach (e :: es) T.X.env = (false, eval e T.X.env) :: starEach es T.X.env := by rfl) : RAO T (e :: es) (oCons ca cs) := fun B F0 =>
  (pa_cons (re_opnd ha B F0) (hr B F0) hs).weak fun σ H Q ⟨F, Γ, r⟩ => ⟨F, Γ, by
    have r' := r.bnd
    refine ⟨r'.1, ?_⟩
    have key : Run T B F0 (opnd ca) F Γ σ H fun a F' Γ' H' => (∃ b, a = opR b) ∧ Run T B F0 (bnd cs fun ds => ret (a :: ds)) F' Γ' σ H' fun rs F' Γ' H' => ∀ vs, IsOps T.X.K T.cm F' σ vs rs → Q vs H' := by
      unfold oCons opnd at r
      unfold opnd
      rw [bnd_assoc] at r
      have r2 := r.bnd
      refine ⟨r.1, ?_⟩
      rcases e1 : ca Γ with _ | ⟨x | a, Γ'⟩
      · have r3 := r2.2; rw [e1] at r3; exact r3.elim
      · have r3 := r2.2; rw [e1] at r3; rw [bnd_err e1]; exact r3
      · have r3 := r2.2
        rw [e1] at r3
        rw [bnd_ok e1]
        exact fun F' H' q S' => ⟨⟨a, rfl⟩, (r3 F' H' q S').bnd.ret.2⟩
    exact (key.mono fun a F1 Γ1 H1 q1 S1 r1 v hv => by
      obtain ⟨⟨b, rfl⟩, r1⟩ := r1
      exact ⟨F1, Γ1, r1.bnd.mono fun ds F2 Γ2 H2 q2 S2 r2 vs hvs => r2.ret.2 _ ⟨hv.op.mono q2, hvs⟩⟩).2⟩
theorem cb_weak {B F0 : Hp} {σ : St} {H : Hp} {Q : VK} (h : tS T B F0 (sCB f cs) σ H Q) : tCB (rDN T f) (tAO T B F0 cs) σ H Q := by
  obtain ⟨F, Γ, r⟩ := h
  refine ⟨F, Γ, r.bnd.mono fun rs F1 Γ1 H1 q1 S1 r1 vs hvs => ?_⟩
  obtain ⟨S, r1⟩ := r1
  rcases e : rsvs Γ1 rs with _ | ds
  · simp only [appN, e] at r1
  · exact ⟨F1, ds, S.fh, hvs.rsvs S e, Run.lift (Γ := Γ1) ⟨S, by simpa only [appN, e] using r1⟩⟩
theorem re_callB {id : String} (hc : CallD T (.builtin id) f) (hm : T.X.mg x = none) (ha : RAO T (e :: es) cs) (hg : Gl T.X x := by rfl) (hv : bootBuiltins x = some (.builtin id) := by decide +kernel) (hn : x ≠ "__name__" := by decide) (hdb : (x == ("__debug__" : Str)) = false := by decide)
    (he : starEach (e :: es) T.X.env = (false, eval e T.X.env) :: starEach es T.X.env := by rfl) (hpl : (backTo pos (starEach es T.X.env)).any (·.1) = false := by rfl) : RE T (.Call (.Name x p) (e :: es) [] pos) (sCB f cs) := fun B F0 =>
  (pe_callB hc hg hm hv (ha B F0) hn hdb he hpl).weak fun _ _ _ h => cb_weak h
theorem re_callTy {n : String} (hc : CallD T (.type n) f) (hm : T.X.mg x = none) (ha : RAO T (e :: es) cs) (hg : Gl T.X x := by rfl) (hv : bootBuiltins x = some (.type n) := by decide +kernel) (hn : x ≠ "__name__" := by decide) (hdb : (x == ("__debug__" : Str)) = false := by decide)
    (he : starEach (e :: es) T.X.env = (false, eval e T.X.env) :: starEach es T.X.env := by rfl) (hpl : (backTo pos (starEach es T.X.env)).any (·.1) = false := by rfl) : RE T (.Call (.Name x p) (e :: es) [] pos) (sCB f cs) := fun B F0 =>
  (pe_callTy hc hg hm hv (ha B F0) hn hdb he hpl).weak fun _ _ _ h => cb_weak h
end
section
variable {T : Tx}
theorem _root_.L2.OpR.imp {X : Cx} {g : Value → Value → Sem Value} {r r' : R2} (h : OpR X g r) (i : ∀ x y H Q, r' x y H Q → r x y H Q) : OpR X g r' := fun pins s σ H x y v u Q I rx ry q => h pins s σ H x y v u Q I rx ry (i _ _ _ _ q)
theorem rd_lst {X : Cx} {pins : List (Addr × Obj)} {σ : St} {H : Hp} {s : Shared} {l : Addr} {xs : List V} (I : Inv X pins σ H s) (h : SqL X.K H l xs) :
    xs.length ≤ sizeLine ∧ ∃ (its : List Value) (n : Nat) (dd : Option Addr) (sl : Array (Option Value)), Vals xs its ∧ xs.length = its.length ∧ s.heap.get? l = some { cls := .type "list", dict := dd, data := .seq its.toArray n, slots := sl } := by
  obtain ⟨its, r, ⟨o, n, e, c, d, hd⟩, z⟩ := I.list h
  obtain ⟨oc, od, dt, sl⟩ := o
  simp only at c d hd
  subst c hd
  exact ⟨z, its, n, _, sl, r, r.length, e⟩
def rCatR (K : PySem.W.Frag) : R2 := fun x y H Q => ∃ l b xs zs, x = .ref l ∧ y = .ref b ∧ SqL K H l xs ∧ SqL K H b zs ∧ xs.length + zs.length ≤ sizeLine ∧ ∀ p, H p = none → Q (.ref p) (upd H p (.lst (xs ++ zs)))
theorem op_catR {X : Cx} : OpR X (binaryOp .Add) (rCatR X.K) := by
  intro pins s σ H x y v u Q I rx ry h
  obtain ⟨l, b, xs, zs, rfl, rfl, hH, hB, hz, q⟩ := h
  cases rx
  cases ry
  obtain ⟨z, its, n, dd, sl, r, hl, e⟩ := rd_lst I hH
  obtain ⟨z2, its2, n2, dd2, sl2, r2, hl2, e2⟩ := rd_lst I hB
  refine PySem.concat_meets ⟨_, e, rfl⟩ ⟨_, e2, rfl⟩ PySem.noFill_list_add PySem.seq_list_add PySem.F.slot_list_add PySem.F.entry_list_add (PySem.F.args_list_add_2 _ _) (PyProof.Rows.list_addW l b its.toArray its2.toArray n n2 dd dd2 sl sl2 (by rw [List.size_toArray, List.size_toArray]; omega)) ⟨e, e2, ?_⟩
  have ea : its.toArray ++ its2.toArray = (its ++ its2).toArray := by simp
  rw [ea]
  exact ⟨.ref _, _, I.lnew (t' := s.toks) (r.append r2) (by rw [List.length_append]; omega), rfl, q _ I.fresh⟩
def addD : D → D → Option Rf
  | .int i, .int j => some (.dat (.int (i + j)))
  | .str x, .str y => if x.length + y.length ≤ big then some (.dat (.str (x ++ y))) else none
  | .lst xs, .lst ys => if xs.length + ys.length ≤ big then some (.own (.lst (xs ++ ys))) else none
  | .tup xs, .tup ys => if xs.length + ys.length ≤ big then some (.dat (.tup (xs ++ ys))) else none
  | _, _ => none
theorem op_addD : OpD T (binaryOp .Add) addD := by
  intro pins s σ H x y v u Q I rx ry h
  obtain ⟨F, d1, d2, fh, i1, i2, h⟩ := h
  match d1, d2, i1, i2, h with
  | .int i, .int j, i1, i2, h => exact op_add pins s σ H x y v u Q I rx ry ⟨i, j, i1.int, i2.int, h.val fh (.int _)⟩
  | .str a, .str b, i1, i2, h =>
    simp only [addD] at h
    split at h
    · rename_i hl
      exact op_add_str pins s σ H x y v u Q I rx ry ⟨a, b, i1.str, i2.str, le_big hl, h.val fh (.str _)⟩
    · exact h.elim
  | .lst xs, .lst ys, i1, i2, h =>
    simp only [addD] at h
    split at h
    · rename_i hl
      obtain ⟨a, vs, rfl, g1, g2⟩ := i1.lst fh
      obtain ⟨b, ws, rfl, g3, g4⟩ := i2.lst fh
      exact op_catR pins s σ H _ _ v u Q I rx ry ⟨a, b, vs, ws, rfl, rfl, g1, g3, by rw [g2.length, g4.length]; exact le_big hl, h.newLst fh (g2.append g4)⟩
    · exact h.elim
  | .tup xs, .tup ys, i1, i2, h =>
    simp only [addD] at h
    split at h
    · rename_i hl
      obtain ⟨a, vs, rfl, g1, g2⟩ := i1.tup fh
      obtain ⟨b, ws, rfl, g3, g4⟩ := i2.tup fh
      have l1 := g2.length
      have l2 := g4.length
      refine op_catA pins s σ H _ _ v u Q I rx ry ⟨a, b, vs, ws, rfl, rfl, g1, g3, by rw [l1, l2]; exact le_big hl, fun e => ?_, fun _ e => ?_, fun _ _ => h.newTup fh (g2.append g4)⟩
      · subst e
        have : xs = [] := List.length_eq_zero_iff.mp l1.symm
        subst this
        exact h _ _ _ (.refl fh) (by simpa using i2.elim id fun ⟨a', ho, e1, e2, e3⟩ => by cases e3)
      · subst e
        have : ys = [] := List.length_eq_zero_iff.mp l2.symm
        subst this
        exact h _ _ _ (.refl fh) (by simpa using i1.elim id fun ⟨a', ho, e1, e2, e3⟩ => by cases e3)
    · exact h.elim
abbrev sm (i : Int) : Bool := decide (-(2 ^ 64) < i) && decide (i < 2 ^ 64)
def mulD : D → D → Option Rf
  | .int i, .int j => if sm i || sm j then some (.dat (.int (i * j))) else none
  | _, _ => none
theorem op_mulD : OpD T (binaryOp .Mult) mulD := op_mul.imp fun x y H Q ⟨F, d1, d2, fh, i1, i2, h⟩ => by
  match d1, d2, i1, i2, h with
  | .int i, .int j, i1, i2, h =>
    simp only [mulD] at h
    split at h
    · rename_i hl
      refine ⟨i, j, i1.int, i2.int, ?_, h.val fh (.int _)⟩
      simp only [sm, Bool.or_eq_true, Bool.and_eq_true, decide_eq_true_eq] at hl
      exact hl
    · exact h.elim
def modD : D → D → Option Rf
  | .int i, .int j => if 0 < j then some (.dat (.int (i % j))) else none
  | _, _ => none
theorem op_modD : OpD T (binaryOp .Mod) modD := op_mod.imp fun x y H Q ⟨F, d1, d2, fh, i1, i2, h⟩ => by
  match d1, d2, i1, i2, h with
  | .int i, .int j, i1, i2, h =>
    simp only [modD] at h
    split at h
    · rename_i hl
      exact ⟨i, j, i1.int, i2.int, hl, h.val fh (.int _)⟩
    · exact h.elim
def divW (i j : Int) : Option Rf := if 0 < j ∧ j < 1606938044258990275541962092341162602522202993782792835301376 then some (.dat (.int (i / j))) else none
def divD : D → D → Option Rf
  | .int i, .int j => if 0 < j ∧ j < 18446744073709551616 then some (.dat (.int (i / j))) else divW i j
  | _, _ => none
theorem op_divD : OpD T (binaryOp .FloorDiv) divD := op_fdivW.imp fun x y H Q ⟨F, d1, d2, fh, i1, i2, h⟩ => by
  match d1, d2, i1, i2, h with
  | .int i, .int j, i1, i2, h =>
    simp only [divD] at h
    split at h
    · rename_i hl
      exact ⟨i, j, i1.int, i2.int, wide_div (b := 64) hl.1 (by omega) (by decide) (by decide), h.val fh (.int _)⟩
    · unfold divW at h
      split at h
      · rename_i hl
        exact ⟨i, j, i1.int, i2.int, wide_div (b := 200) hl.1 (by omega) (by decide) (by decide), h.val fh (.int _)⟩
      · exact h.elim
def powD : D → D → Option Rf
  | .int i, .int j => if 0 ≤ j ∧ j ≤ 1000000 ∧ i.natAbs < 18446744073709551616 then some (.dat (.int (i ^ j.toNat))) else none
  | _, _ => none
theorem op_powD : OpD T (binaryOp .Pow) powD := op_pow.imp fun x y H Q ⟨F, d1, d2, fh, i1, i2, h⟩ => by
  match d1, d2, i1, i2, h with
  | .int i, .int j, i1, i2, h =>
    simp only [powD] at h
    split at h
    · rename_i hl
      exact ⟨i, j, i1.int, i2.int, hl, h.val fh (.int _)⟩
    · exact h.elim
def eqD (d e : D) : Option Rf := if okD 60 d && okD 60 e then some (.dat (.bl (eqF 60 d e))) else none
def neD (d e : D) : Option Rf := if okD 60 d && okD 60 e then some (.dat (.bl (!eqF 60 d e))) else none
theorem op_eqDD {k : Nat} (hr : Room k T.X.A) : OpD T (compareOp .Eq) eqD := by
  intro pins s σ H x y v u Q I rx ry h
  obtain ⟨F, d1, d2, fh, i1, i2, h⟩ := h
  unfold eqD at h
  split at h
  · rename_i ho
    simp only [Bool.and_eq_true] at ho
    obtain ⟨as, r1⟩ := Dp.reads I _ x v (is_dp fh 60 d1 ho.1 i1) rx
    obtain ⟨bs, r2⟩ := Dp.reads I _ y u (is_dp fh 60 d2 ho.2 i2) ry
    have p1 := py_plain 60 d1 ho.1
    have p2 := py_plain 60 d2 ho.2
    exact SeqAt.eq_plain r1 r2 p1.1 p2.1 (by have := hr.units; have : min (py d1).depth (py d2).depth ≤ (py d1).depth := Nat.min_le_left _ _; omega)
      ⟨.bl _, H, I, rfl, by rw [eqF_py 60 d1 d2 ho.1 ho.2]; exact h.val fh (.bl _)⟩
  · exact h.elim
theorem op_neDD {k : Nat} (hr : Room k T.X.A) : OpD T (compareOp .NotEq) neD := by
  intro pins s σ H x y v u Q I rx ry h
  obtain ⟨F, d1, d2, fh, i1, i2, h⟩ := h
  unfold neD at h
  split at h
  · rename_i ho
    simp only [Bool.and_eq_true] at ho
    obtain ⟨as, r1⟩ := Dp.reads I _ x v (is_dp fh 60 d1 ho.1 i1) rx
    obtain ⟨bs, r2⟩ := Dp.reads I _ y u (is_dp fh 60 d2 ho.2 i2) ry
    have p1 := py_plain 60 d1 ho.1
    have p2 := py_plain 60 d2 ho.2
    exact SeqAt.ne_plain r1 r2 p1.1 p2.1 (by have := hr.units; have : min (py d1).depth (py d2).depth ≤ (py d1).depth := Nat.min_le_left _ _; omega)
      ⟨.bl _, H, I, rfl, by rw [eqF_py 60 d1 d2 ho.1 ho.2]; exact h.val fh (.bl _)⟩
  · exact h.elim
def ltD : D → D → Option Rf
  | .int i, .int j => some (.dat (.bl (decide (i < j))))
  | .str i, .str j => some (.dat (.bl (decide (i.cps.toList < j.cps.toList))))
  | _, _ => none
theorem op_ltD : OpD T (compareOp .Lt) ltD := by
  intro pins s σ H x y v u Q I rx ry h
  obtain ⟨F, d1, d2, fh, i1, i2, h⟩ := h
  match d1, d2, i1, i2, h with
  | .int i, .int j, i1, i2, h => exact op_lt pins s σ H x y v u Q I rx ry ⟨i, j, i1.int, i2.int, h.val fh (.bl _)⟩
  | .str i, .str j, i1, i2, h => exact op_lt_str pins s σ H x y v u Q I rx ry ⟨i, j, i1.str, i2.str, h.val fh (.bl _)⟩
def leD : D → D → Option Rf
  | .int i, .int j => some (.dat (.bl (decide (i ≤ j))))
  | .str i, .str j => some (.dat (.bl (!decide (j.cps.toList < i.cps.toList))))
  | _, _ => none
theorem op_leD : OpD T (compareOp .LtE) leD := by
  intro pins s σ H x y v u Q I rx ry h
  obtain ⟨F, d1, d2, fh, i1, i2, h⟩ := h
  match d1, d2, i1, i2, h with
  | .int i, .int j, i1, i2, h => exact op_le pins s σ H x y v u Q I rx ry ⟨i, j, i1.int, i2.int, h.val fh (.bl _)⟩
  | .str i, .str j, i1, i2, h => exact op_le_str pins s σ H x y v u Q I rx ry ⟨i, j, i1.str, i2.str, h.val fh (.bl _)⟩
def gtD : D → D → Option Rf
  | .int i, .int j => some (.dat (.bl (decide (j < i))))
  | .str i, .str j => some (.dat (.bl (decide (j.cps.toList < i.cps.toList))))
  | _, _ => none
theorem op_gtD : OpD T (compareOp .Gt) gtD := by
  intro pins s σ H x y v u Q I rx ry h
  obtain ⟨F, d1, d2, fh, i1, i2, h⟩ := h
  match d1, d2, i1, i2, h with
  | .int i, .int j, i1, i2, h => exact op_gt pins s σ H x y v u Q I rx ry ⟨i, j, i1.int, i2.int, h.val fh (.bl _)⟩
  | .str i, .str j, i1, i2, h => exact op_gt_str pins s σ H x y v u Q I rx ry ⟨i, j, i1.str, i2.str, h.val fh (.bl _)⟩
def geD : D → D → Option Rf
  | .int i, .int j => some (.dat (.bl (decide (j ≤ i))))
  | .str i, .str j => some (.dat (.bl (!decide (i.cps.toList < j.cps.toList))))
  | _, _ => none
theorem op_geD : OpD T (compareOp .GtE) geD := by
  intro pins s σ H x y v u Q I rx ry h
  obtain ⟨F, d1, d2, fh, i1, i2, h⟩ := h
  match d1, d2, i1, i2, h with
  | .int i, .int j, i1, i2, h => exact op_ge pins s σ H x y v u Q I rx ry ⟨i, j, i1.int, i2.int, h.val fh (.bl _)⟩
  | .str i, .str j, i1, i2, h => exact op_ge_str pins s σ H x y v u Q I rx ry ⟨i, j, i1.str, i2.str, h.val fh (.bl _)⟩
def inB : D → D → Option Bool
  | .str x, .str z => match x.cps.toList with
    | [c] => some (decide (c ∈ z.cps.toList))
    | _ => some (!(Builtin.Str.occurrences z x 0 z.length 1).isEmpty)
  | d, .lst xs => if okD 59 d && xs.all (okD 59) then some (xs.any fun y => eqF 59 y d) else none
  | d, .tup xs => if okD 59 d && xs.all (okD 59) then some (xs.any fun y => eqF 59 y d) else none
  | _, _ => none
def inD (d e : D) : Option Rf := (inB d e).map fun b => .dat (.bl b)
def notInD (d e : D) : Option Rf := (inB d e).map fun b => .dat (.bl !b)
theorem any_py {n : Nat} {d : D} (hd : okD n d = true) : ∀ {xs : List D}, xs.all (okD n) = true → ((pyAll xs).any fun y => PyData.eqv y (py d)) = xs.any fun y => eqF n y d
  | [], _ => by simp [pyAll]
  | x :: xs, h => by
    simp only [List.all_cons, Bool.and_eq_true] at h
    simp only [pyAll, List.any_cons, eqF_py n x d h.1 hd, any_py hd h.2]
theorem in_core {k : Nat} (hr : Room k T.X.A) {op : CmpOp} {g : Bool → Bool} (hop : (op = .In ∧ g = id) ∨ (op = .NotIn ∧ g = not)) : OpD T (compareOp op) fun d e => (inB d e).map fun b => .dat (.bl (g b)) := by
  intro pins s σ H x y v u Q I rx ry h
  obtain ⟨F, d1, d2, fh, i1, i2, h⟩ := h
  have seq : ∀ (xs : List D), okD 59 d1 = true → xs.all (okD 59) = true → (d2 = .lst xs ∨ d2 = .tup xs) → Q (.bl (g (xs.any fun y => eqF 59 y d1))) H → wpAny (model T.X.prog T.X.w) T.X.A (compareOp op v u) (EP T.X pins σ Q) T.X.xe s := fun xs o1 o2 hd q => by
    have p1 := py_plain 59 d1 o1
    have p3 : okD 60 (.lst xs) = true := by simpa [okD] using o2
    have p3' : okD 60 (.tup xs) = true := by simpa [okD] using o2
    have p2 := py_plain 60 (.lst xs) p3
    have pl : PyData.plainAll (pyAll xs) = true := by simpa [py, PyData.plain] using p2.1
    have pd : PyData.depthAll (pyAll xs) ≤ 59 := by have := p2.2; simp only [py, PyData.depth] at this; omega
    obtain ⟨as, r1⟩ := Dp.reads I _ x v (is_dp fh 59 d1 o1 i1) rx
    have hu := hr.units
    have hm : min (PyData.depthAll (pyAll xs)) (py d1).depth ≤ PyData.depthAll (pyAll xs) := Nat.min_le_left _ _
    rw [← any_py o1 o2] at q
    rcases hd with rfl | rfl
    · obtain ⟨bs, r2⟩ := Dp.reads I _ y u (is_dp fh 60 _ p3 i2) ry
      simp only [py] at r2
      rcases hop with ⟨rfl, rfl⟩ | ⟨rfl, rfl⟩
      · exact SeqAt.in_list_data r2 r1 pl p1.1 (by omega) ⟨.bl _, H, I, rfl, q⟩
      · exact SeqAt.notIn_list_data r2 r1 pl p1.1 (by omega) ⟨.bl _, H, I, rfl, q⟩
    · obtain ⟨bs, r2⟩ := Dp.reads I _ y u (is_dp fh 60 _ p3' i2) ry
      simp only [py] at r2
      rcases hop with ⟨rfl, rfl⟩ | ⟨rfl, rfl⟩
      · exact SeqAt.in_tuple_data r2 r1 pl p1.1 (by omega) ⟨.bl _, H, I, rfl, q⟩
      · exact SeqAt.notIn_tuple_data r2 r1 pl p1.1 (by omega) ⟨.bl _, H, I, rfl, q⟩
  have goSeq : ∀ (xs : List D), (d2 = .lst xs ∨ d2 = .tup xs) → inB d1 d2 = (if okD 59 d1 && xs.all (okD 59) then some (xs.any fun y => eqF 59 y d1) else none) → wpAny (model T.X.prog T.X.w) T.X.A (compareOp op v u) (EP T.X pins σ Q) T.X.xe s := fun xs hd e => by
    have h : Res T F H Q ((inB d1 d2).map fun b => .dat (.bl (g b))) := h
    rw [e] at h
    split at h
    · rename_i ho
      simp only [Bool.and_eq_true] at ho
      exact seq xs ho.1 ho.2 hd (h.val fh (.bl _))
    · exact h.elim
  have h : Res T F H Q ((inB d1 d2).map fun b => .dat (.bl (g b))) := h
  cases d2 with
  | lst xs => exact goSeq xs (.inl rfl) (by cases d1 <;> rfl)
  | tup xs => exact goSeq xs (.inr rfl) (by cases d1 <;> rfl)
  | str z =>
    cases d1 with
    | str w =>
      simp only [inB] at h
      split at h
      · rename_i c hc
        have ew : w = ⟨#[c]⟩ := by
          obtain ⟨⟨l⟩⟩ := w
          simp only at hc
          rw [hc]
        have q := h.val fh (.bl _)
        rcases hop with ⟨rfl, rfl⟩ | ⟨rfl, rfl⟩
        · exact op_in_sign pins s σ H x y v u Q I rx ry ⟨c, z, by rw [i1.str, ew], i2.str, q⟩
        · exact op_notIn_sign pins s σ H x y v u Q I rx ry ⟨c, z, by rw [i1.str, ew], i2.str, q⟩
      · have q := h.val fh (.bl _)
        rcases hop with ⟨rfl, rfl⟩ | ⟨rfl, rfl⟩
        · exact op_in_str pins s σ H x y v u Q I rx ry ⟨w, z, i1.str, i2.str, q⟩
        · exact op_notin_str pins s σ H x y v u Q I rx ry ⟨w, z, i1.str, i2.str, q⟩
    | _ => exact False.elim h
  | _ => exact False.elim (by cases d1 <;> exact h)
theorem op_inDD {k : Nat} (hr : Room k T.X.A) : OpD T (compareOp .In) inD := in_core hr (g := id) (.inl ⟨rfl, rfl⟩)
theorem op_notInDD {k : Nat} (hr : Room k T.X.A) : OpD T (compareOp .NotIn) notInD := in_core hr (g := not) (.inr ⟨rfl, rfl⟩)
end
end DL
namespace DL
open PySem L2
inductive Fl where
  | nx | bk | ct | rt (r : Rf)
def RunS (T : Tx) (B F0 : Hp) {α : Type} (c : M α) (F : Hp) (Γ : List Sl) (σ : St) (H : Hp) (P : α → Hp → List Sl → St → Hp → Prop) : Prop :=
  T.Sat B F0 F Γ σ H ∧ match c Γ with
    | none => False
    | some (.ok a, Γ') => ∀ F' H' σ', Same F F' → T.Sat B F0 F' Γ' σ' H' → P a F' Γ' σ' H'
    | some (.error e, Γ') => ∀ F' H' σ' cls dx, Same F F' → T.Sat B F0 F' Γ' σ' H' → IsExc T.X.K T.cm F' cls dx e → T.W cls dx σ' H'
section
variable {T : Tx} {B F0 F : Hp} {Γ : List Sl} {σ : St} {H : Hp} {α β : Type}
theorem RunS.mono {c : M α} {P P' : α → Hp → List Sl → St → Hp → Prop} (r : RunS T B F0 c F Γ σ H P) (h : ∀ a F' Γ' σ' H', Same F F' → T.Sat B F0 F' Γ' σ' H' → P a F' Γ' σ' H' → P' a F' Γ' σ' H') : RunS T B F0 c F Γ σ H P' := by
  obtain ⟨S, r⟩ := r
  refine ⟨S, ?_⟩
  rcases e : c Γ with _ | ⟨x | a, Γ'⟩
  · rw [e] at r; exact r
  · rw [e] at r; exact r
  · rw [e] at r
    exact fun F' H' σ' q S' => h a F' Γ' σ' H' q S' (r F' H' σ' q S')
theorem RunS.bnd {c : M α} {k : α → M β} {P : β → Hp → List Sl → St → Hp → Prop} (r : RunS T B F0 (DL.bnd c k) F Γ σ H P) : RunS T B F0 c F Γ σ H fun a F' Γ' σ' H' => RunS T B F0 (k a) F' Γ' σ' H' P := by
  obtain ⟨S, r⟩ := r
  refine ⟨S, ?_⟩
  rcases e : c Γ with _ | ⟨x | a, Γ'⟩
  · rw [bnd_none e] at r; exact r
  · rw [bnd_err e] at r; exact r
  · rw [bnd_ok e] at r
    refine fun F' H' σ' q S' => ⟨S', ?_⟩
    rcases e2 : k a Γ' with _ | ⟨x | b, Γ''⟩
    · rw [e2] at r; exact r
    · rw [e2] at r
      exact fun F'' H'' σ'' cls dx q2 S2 i => r F'' H'' σ'' cls dx (q.trans q2) S2 i
    · rw [e2] at r
      exact fun F'' H'' σ'' q2 S2 => r F'' H'' σ'' (q.trans q2) S2
theorem RunS.ret {a : α} {P : α → Hp → List Sl → St → Hp → Prop} (r : RunS T B F0 (DL.ret a) F Γ σ H P) : T.Sat B F0 F Γ σ H ∧ P a F Γ σ H := ⟨r.1, r.2 F H σ (.refl _) r.1⟩
theorem RunS.run {c : M α} {P : α → Hp → List Sl → St → Hp → Prop} (r : RunS T B F0 c F Γ σ H P) : Run T B F0 c F Γ σ H fun a F' Γ' H' => P a F' Γ' σ H' := by
  obtain ⟨S, r⟩ := r
  refine ⟨S, ?_⟩
  rcases e : c Γ with _ | ⟨x | a, Γ'⟩
  · rw [e] at r; exact r
  · rw [e] at r; exact fun F' H' cls dx q S' i => r F' H' σ cls dx q S' i
  · rw [e] at r; exact fun F' H' q S' => r F' H' σ q S'
theorem RunS.step {c : M α} {P : α → Hp → List Sl → St → Hp → Prop} {F' H' : Hp} {σ' : St} (r : RunS T B F0 c F Γ σ H P) (q : Same F F') (S' : T.Sat B F0 F' Γ σ' H') : RunS T B F0 c F' Γ σ' H' P := by
  obtain ⟨S, r⟩ := r
  refine ⟨S', ?_⟩
  rcases e : c Γ with _ | ⟨x | a, Γ'⟩
  · rw [e] at r; exact r
  · rw [e] at r
    exact fun F'' H'' σ'' cls dx q2 S2 i => r F'' H'' σ'' cls dx (q.trans q2) S2 i
  · rw [e] at r
    exact fun F'' H'' σ'' q2 S2 => r F'' H'' σ'' (q.trans q2) S2
end
def fin (T : Tx) (B : Hp) (D : Ends) : Fl → Hp → List Sl → St → Hp → Prop
  | .nx => fun _ _ σ H => D.nx σ H
  | .bk => fun _ _ σ H => D.bk σ H
  | .ct => fun _ _ σ H => D.ct σ H
  | .rt r => fun F Γ σ H => ∀ v, IsRf T.X.K T.cm B F Γ σ H v r → D.rt v H
def tSt (T : Tx) (B F0 : Hp) (c : M Fl) : TS := fun D σ H => ∃ F Γ, RunS T B F0 c F Γ σ H (fin T B D)
def RS (T : Tx) (st : Stmt) (c : M Fl) : Prop := ∀ B F0, PS T.X st (tSt T B F0 c)
def RSs (T : Tx) (st : List Stmt) (c : M Fl) : Prop := ∀ B F0, PSs T.X st (tSt T B F0 c)
def sSkip : M Fl := ret .nx
def sSeq (a b : M Fl) : M Fl := bnd a fun f => match f with
  | .nx => b
  | f => ret f
def sIf (t : M Bool) (a b : M Fl) : M Fl := bnd t fun k => if k then a else b
def sDrop (c : M Rf) : M Fl := bnd c fun _ => ret .nx
def sRet (c : M Rf) : M Fl := bnd c fun r => ret (.rt r)
section
variable {T : Tx} {e c : Expr} {st : Stmt} {sts ss : List Stmt} {ca : M Rf} {ta : M Bool} {cs ct : M Fl} {pos : Pos}
theorem rss_nil : RSs T [] sSkip := fun B F0 => pss_nil.weak fun D σ H ⟨F, Γ, r⟩ => r.ret.2
theorem rss_cons (h : RS T st cs) (g : RSs T sts ct) : RSs T (st :: sts) (sSeq cs ct) := fun B F0 => (pss_cons (h B F0) (g B F0)).weak fun D σ H ⟨F, Γ, r⟩ => ⟨F, Γ, r.bnd.mono fun f F1 Γ1 σ1 H1 q1 S1 r1 => by
  cases f with
  | nx => exact ⟨F1, Γ1, r1⟩
  | bk => exact r1.ret.2
  | ct => exact r1.ret.2
  | rt r => exact r1.ret.2⟩
theorem rss_one (h : RS T st cs) : RSs T [st] cs := fun B F0 => pss_one (h B F0)
theorem rs_expr (h : RE T e ca) (hs : swapsWith e none pos.line T.X.env = pure false := by rfl) : RS T (.Expr e pos) (sDrop ca) := fun B F0 => (ps_expr (h B F0) hs).weak fun D σ H ⟨F, Γ, r⟩ => ⟨F, Γ, r.bnd.run.mono fun x F1 Γ1 H1 q1 S1 r1 v hv => r1.ret.2⟩
theorem rs_ret (h : RE T e ca) : RS T (.Return (some e) pos) (sRet ca) := fun B F0 => (ps_ret (h B F0)).weak fun D σ H ⟨F, Γ, r⟩ => ⟨F, Γ, r.bnd.run.mono fun x F1 Γ1 H1 q1 S1 r1 v hv => r1.ret.2 v hv⟩
theorem rs_if (h : RT T c ta) (ha : RSs T sts cs) (hb : RSs T ss ct) : RS T (.If c sts ss pos) (sIf ta cs ct) := fun B F0 => (ps_if (h B F0) (ha B F0) (hb B F0)).weak fun D σ H ⟨F, Γ, r⟩ => ⟨F, Γ, r.bnd.run.mono fun k F1 Γ1 H1 q1 S1 r1 => by
  cases k with
  | true => rw [if_pos rfl]; exact ⟨F1, Γ1, by simpa using r1⟩
  | false => rw [if_neg (by simp)]; exact ⟨F1, Γ1, by simpa using r1⟩⟩
end
def gSet (i : Nat) (d : D) : M Unit := fun Γ => if i < Γ.length then some (.ok (), Γ.set i (.dat d)) else none
def gOwn (i : Nat) (d : D) : M Unit := fun Γ => if i < Γ.length then some (.ok (), Γ.set i (.own d)) else none
def stR (i : Nat) : Rf → M Unit
  | .dat d => gSet i d
  | .own d => gOwn i d
  | .slot j => bnd (capR (.slot j)) (gSet i)
def sSet (i : Nat) (c : M Rf) : M Fl := bnd c fun r => bnd (stR i r) fun _ => ret .nx
abbrev NoIo (T : Tx) (i : Nat) : Prop := T.io = none ∨ i ≠ 0
section
variable {T : Tx} {B F0 F : Hp} {Γ : List Sl} {σ : St} {H : Hp}
theorem RunS.gSet {i : Nat} {d : D} {v : V} {P : Unit → Hp → List Sl → St → Hp → Prop} (r : RunS T B F0 (DL.gSet i d) F Γ σ H P) (hi : NoIo T i) (h : T.Is F v d) : T.Sat B F0 F (Γ.set i (.dat d)) (σ.set i (some v)) H ∧ P () F (Γ.set i (.dat d)) (σ.set i (some v)) H := by
  obtain ⟨S, r⟩ := r
  unfold DL.gSet at r
  split at r
  · exact r.elim
  · rename_i a Γ' e
    split at e
    · injection e with e; injection e with e1 e2; subst e2
      have S' := S.set hi h
      exact ⟨S', r F H _ (.refl _) S'⟩
    · cases e
  · rename_i a Γ' e
    split at e <;> cases e
theorem RunS.gOwn {i : Nat} {d : D} {v : V} {P : Unit → Hp → List Sl → St → Hp → Prop} (r : RunS T B F0 (DL.gOwn i d) F Γ σ H P) (hi : NoIo T i) (h : IsRf T.X.K T.cm B F Γ σ H v (.own d)) : T.Sat B F0 F (Γ.set i (.own d)) (σ.set i (some v)) H ∧ P () F (Γ.set i (.own d)) (σ.set i (some v)) H := by
  obtain ⟨S, r⟩ := r
  obtain ⟨a, ho, rfl, h1, h2, h3, h4, h5⟩ := h
  unfold DL.gOwn at r
  split at r
  · exact r.elim
  · rename_i a Γ' e
    split at e
    · injection e with e; injection e with e1 e2; subst e2
      have S' := S.setOwn hi h1 h2 h3 h4 h5
      exact ⟨S', r F H _ (.refl _) S'⟩
    · cases e
  · rename_i a Γ' e
    split at e <;> cases e
theorem RunS.capSlot {j : Nat} {v : V} {P : D → Hp → List Sl → St → Hp → Prop} (r : RunS T B F0 (capR (.slot j)) F Γ σ H P) (h : σ[j]? = some (some v)) : ∃ d F', Same F F' ∧ T.Is F' v d ∧ T.Sat B F0 F' (Γ.set j (.dat d)) σ H ∧ P d F' (Γ.set j (.dat d)) σ H ∧
    (∃ a ho, v = .ref a ∧ Γ[j]? = some (.own d) ∧ F a = none ∧ F' = upd F a ho) := by
  obtain ⟨S, r⟩ := r
  unfold capR at r
  simp only at r
  split at r
  · exact r.elim
  · rename_i a Γ' e
    split at e
    · rename_i d hd
      injection e with e; injection e with e1 e2; injection e1 with e1; subst e1; subst e2
      obtain ⟨a, ho, F2, g1, g2, rfl, g3, g4, g5⟩ := S.frSlot hd
      obtain ⟨a', ho', k1, k2, _⟩ := S.ow j _ hd
      rw [g1] at h; injection h with h; injection h with h; subst h
      rw [g1] at k1; injection k1 with k1; injection k1 with k1; injection k1 with k1; subst k1
      exact ⟨_, _, g3, g4, g5, r _ H σ g3 g5, a, ho, rfl, hd, k2, rfl⟩
    · cases e
  · rename_i a Γ' e
    split at e <;> cases e
variable {e : Expr} {ca : M Rf} {pos pos' : Pos} {x : Str}
theorem RunS.stR {i : Nat} {r0 : Rf} {v : V} {P : Unit → Hp → List Sl → St → Hp → Prop} (r : RunS T B F0 (DL.stR i r0) F Γ σ H P) (hi : NoIo T i) (h : IsRf T.X.K T.cm B F Γ σ H v r0) : ∃ F' Γ', P () F' Γ' (σ.set i (some v)) H := by
  cases r0 with
  | dat d => exact ⟨_, _, (r.gSet hi h).2⟩
  | own d => exact ⟨_, _, (r.gOwn hi h).2⟩
  | slot j =>
    obtain ⟨d, F', q, i1, S', r1, _⟩ := r.bnd.capSlot h.1
    exact ⟨_, _, (r1.gSet hi i1).2⟩
theorem rs_set (i : Nat) (h : RE T e ca) (hN : T.X.N.Nodup) (hx : T.X.N[i]? = some x := by rfl) (hl : Loc T.X.env.scope x := by first | exact Or.inl rfl | exact Or.inr rfl) (hio : NoIo T i := by first | exact Or.inl rfl | exact Or.inr (by decide))
    (hs : swapsWith e (some (.Name x pos')) pos.line T.X.env = pure false := by rfl) (hf : T.X.fn x = true ∨ T.X.env.scope.names.lookup x = some .local := by first | exact .inl rfl | exact .inr rfl | assumption) : RS T (.Assign [.Name x pos'] e pos) (sSet i ca) := fun B F0 =>
  (ps_set hN hx hl (h B F0) hs hf).weak fun D σ H ⟨F, Γ, r⟩ => ⟨F, Γ, r.bnd.run.mono fun r0 F1 Γ1 H1 q1 S1 r1 v hv => by
    obtain ⟨F', Γ', r2⟩ := r1.bnd.stR hio hv
    exact r2.ret.2⟩
def tG (T : Tx) (B F0 : Hp) (g : D → M Unit) : TG := fun v σ H Q => ∃ F Γ d, T.Is F v d ∧ RunS T B F0 (g d) F Γ σ H fun _ F' Γ' σ' H' => Q σ' H'
def RG (T : Tx) (tg : Expr) (g : D → M Unit) : Prop := ∀ B F0, PG T.X tg (tG T B F0 g)
def gNone : List D → M Unit
  | [] => ret ()
  | _ => fail
def gMore (g : D → M Unit) (gs : List D → M Unit) : List D → M Unit
  | d :: ds => bnd (g d) fun _ => gs ds
  | _ => fail
def gTupD (n : Nat) (gs : List D → M Unit) : D → M Unit
  | .tup ds => if ds.length = n then gs ds else fail
  | _ => fail
def tGs (T : Tx) (B F0 : Hp) (gs : List D → M Unit) : TGs := fun vs σ H Q => ∃ F Γ ds, IsAll T.X.K T.cm F vs ds ∧ RunS T B F0 (gs ds) F Γ σ H fun _ F' Γ' σ' H' => Q σ' H'
def RGs (T : Tx) (ts : List Expr) (gs : List D → M Unit) : Prop := ∀ B F0, PGs T.X ts (tGs T B F0 gs)
theorem _root_.L2.PG.weak {X : Cx} {e : Expr} {t t' : TG} (h : PG X e t) (w : ∀ v σ H Q, t' v σ H Q → t v σ H Q) : PG X e t' := ⟨fun pins s σ H v u Q I r q => h.run pins s σ H v u Q I r (w v σ H Q q)⟩
theorem _root_.L2.PGs.weak {X : Cx} {e : List Expr} {t t' : TGs} (h : PGs X e t) (w : ∀ v σ H Q, t' v σ H Q → t v σ H Q) : PGs X e t' := ⟨fun pins s σ H v u Q I r q => h.run pins s σ H v u Q I r (w v σ H Q q)⟩
theorem rg_name (i : Nat) (hN : T.X.N.Nodup) (hi : T.X.N[i]? = some x := by rfl) (hx : Loc T.X.env.scope x := by first | exact Or.inl rfl | exact Or.inr rfl) (hio : NoIo T i := by first | exact Or.inl rfl | exact Or.inr (by decide))
    (hf : T.X.fn x = true ∨ T.X.env.scope.names.lookup x = some .local := by first | exact .inl rfl | exact .inr rfl | assumption) : RG T (.Name x pos) (gSet i) := fun B F0 =>
  (pg_name hN hi hx hf).weak fun v σ H Q ⟨F, Γ, d, i, r⟩ => (r.gSet hio i).2
theorem rgs_nil : RGs T [] gNone := fun B F0 => pgs_nil.weak fun vs σ H Q ⟨F, Γ, ds, i, r⟩ => by
  cases ds with
  | nil => cases i; exact ⟨rfl, r.ret.2⟩
  | cons d ds => exact r.2.elim
theorem rgs_cons {t : Expr} {ts : List Expr} {g : D → M Unit} {gs : List D → M Unit} (h1 : RG T t g) (h2 : RGs T ts gs) (hs : (assignEach (t :: ts) T.X.env).map (·.2) = assign t T.X.env :: (assignEach ts T.X.env).map (·.2) := by rfl) : RGs T (t :: ts) (gMore g gs) := fun B F0 =>
  (pgs_cons (h1 B F0) (h2 B F0) hs).weak fun vs σ H Q ⟨F, Γ, ds, i, r⟩ => by
    cases ds with
    | nil => exact r.2.elim
    | cons d ds =>
      cases i with
      | cons i is => exact ⟨_, _, rfl, F, Γ, d, i, r.bnd.mono fun _ F1 Γ1 σ1 H1 q1 S1 r1 => ⟨F1, Γ1, ds, is.mono q1 _, r1⟩⟩
theorem rg_tup {es : List Expr} {k n : Nat} {gs : List D → M Unit} (h : RGs T es gs) (hc : T.X.calm = true) (hn : (assignEach es T.X.env).length = n := by rfl) (hst : (assignEach es T.X.env).findIdx? (·.1) = none := by rfl) : RG T (.Tuple es k pos) (gTupD n gs) := fun B F0 =>
  (pg_tup hc (h B F0) hn hst).weak fun v σ H Q ⟨F, Γ, d, i, r⟩ => by
    cases d with
    | tup ds =>
      obtain ⟨a, vs, rfl, g1, g2⟩ := IsT.tup r.1.fh (.inl i)
      by_cases hl : ds.length = n
      · have r' : RunS T B F0 (gs ds) F Γ σ H fun _ F' Γ' σ' H' => Q σ' H' := by simpa only [gTupD, if_pos hl] using r
        exact ⟨a, vs, rfl, g1, by rw [g2.length, hl], F, Γ, ds, g2, r'⟩
      · have r' := r.2
        simp only [gTupD, if_neg hl] at r'
        exact r'.elim
    | _ => exact r.2.elim
def sAsg (g : D → M Unit) (c : M Rf) : M Fl := bnd (cap c) fun d => bnd (g d) fun _ => ret .nx
theorem rs_asg {tg : Expr} {g : D → M Unit} (h : RE T e ca) (hg : RG T tg g) (hs : swapsWithSole [tg] e pos.line T.X.env = pure false := by rfl) (hw : swappedStores [tg] e T.X.env = pure none := by rfl)
    (h1 : (assignEach [tg] T.X.env).map (·.2) = [assign tg T.X.env] := by rfl) : RS T (.Assign [tg] e pos) (sAsg g ca) := fun B F0 =>
  (ps_asg (rd_of h B F0) (hg B F0) hs hw h1).weak fun D σ H ⟨F, Γ, r⟩ => ⟨F, Γ, r.bnd.run.mono fun d F1 Γ1 H1 q1 S1 r1 v hv => ⟨F1, Γ1, d, hv, r1.bnd.mono fun _ F2 Γ2 σ2 H2 q2 S2 r2 => r2.ret.2⟩⟩
def IsPd (K : PySem.W.Frag) (cm : CM) (B F : Hp) (Γ : List Sl) (σ : St) (H : Hp) (v : V) : Rf → Prop
  | .dat d => DL.Is K cm F v d
  | .own d => ∃ a ho, v = .ref a ∧ F a = none ∧ B a = none ∧ H a = some ho ∧ OwnIs K cm F ho d ∧ ∀ (i : Nat) (e : D), Γ[i]? = some (.own e) → σ[i]? ≠ some (some (.ref a))
  | .slot i => σ[i]? = some (some v)
def IsPds (K : PySem.W.Frag) (cm : CM) (B F : Hp) (Γ : List Sl) (σ : St) (H : Hp) : List V → List Rf → Prop
  | [], [] => True
  | v :: vs, r :: rs => IsPd K cm B F Γ σ H v r ∧ (∀ d, r = .own d → ∀ (j : Nat) (e : D), rs[j]? = some (.own e) → vs[j]? ≠ some v) ∧ IsPds K cm B F Γ σ H vs rs
  | _, _ => False
def rNil : M (List Rf) := ret []
def rCons (a : M Rf) (r : M (List Rf)) : M (List Rf) := bnd a fun x => bnd r fun xs => ret (x :: xs)
def tAR (T : Tx) (c : M (List Rf)) : TA := fun σ H Q => ∃ B F0 F Γ, Run T B F0 c F Γ σ H fun rs F' Γ' H' => ∀ vs, IsPds T.X.K T.cm B F' Γ' σ H' vs rs → Q vs H'
def RR' (T : Tx) (es : List Expr) (c : M (List Rf)) : Prop := PA T.X es (tAR T c)
theorem Sat.weakB {K : PySem.W.Frag} {cm : CM} {io : Option Addr} {B B' : Hp} (S : DL.Sat K cm io B' F0 F Γ σ H) (q : Same B B') : DL.Sat K cm io B F0 F Γ σ H where
  fh := S.fh
  bh := (Keep.of q).trans S.bh
  tb := S.tb
  f0 := S.f0
  nw := fun p o e => by
    rcases S.nw p o e with h | h
    · exact .inl h
    · exact .inr (q.free h)
  len := S.len
  dt := S.dt
  ow := fun i d e => let ⟨a, ho, h1, h2, h3, h4, h5⟩ := S.ow i d e; ⟨a, ho, h1, h2, q.free h3, h4, h5⟩
  ap := S.ap
  ioA := S.ioA
theorem Run.frame {α : Type} {c : M α} {P : α → Hp → List Sl → Hp → Prop} {p : Addr} {ho : HO} (r : Run T B F0 c F Γ σ H P) (hB : B p = none) (hF : F p = none) (hH : H p = some ho) (hn : ∀ (i : Nat) (e : D), Γ[i]? = some (.own e) → σ[i]? ≠ some (some (.ref p))) (nt : ntb ho = true := by rfl) :
    Run T (upd B p ho) F0 c F Γ σ H fun a F' Γ' H' => T.Sat B F0 F' Γ' σ H' ∧ F' p = none ∧ H' p = some ho ∧ P a F' Γ' H' := by
  obtain ⟨S, r⟩ := r
  have S' : T.Sat (upd B p ho) F0 F Γ σ H := by
    refine ⟨S.fh, fun b o e => ?_, S.tb, S.f0, fun q o e => ?_, S.len, S.dt, fun i d e => ?_, S.ap, S.ioA⟩
    · by_cases hb : b = p
      · subst hb; rw [upd_same] at e; cases e; exact .inl hH
      · rw [upd_ne hb] at e; exact S.bh b o e
    · rcases S.nw q o e with h | h
      · exact .inl h
      · have : q ≠ p := fun z => by subst z; rw [hF] at e; cases e
        exact .inr (by rw [upd_ne this]; exact h)
    · obtain ⟨a, ho', h1, h2, h3, h4, h5⟩ := S.ow i d e
      have : a ≠ p := fun z => hn i d e (by rw [h1, z])
      exact ⟨a, ho', h1, h2, by rw [upd_ne this]; exact h3, h4, h5⟩
  have key : ∀ F' Γ' H', T.Sat (upd B p ho) F0 F' Γ' σ H' → T.Sat B F0 F' Γ' σ H' ∧ F' p = none ∧ H' p = some ho := fun F' Γ' H' S2 => by
    refine ⟨S2.weakB (.up hB), ?_, S2.bh.at upd_same nt⟩
    cases e : F' p with
    | none => rfl
    | some o =>
      rcases S2.nw p o e with h | h
      · rw [S.f0 p o h] at hF; cases hF
      · rw [upd_same] at h; cases h
  refine ⟨S', ?_⟩
  rcases e : c Γ with _ | ⟨x | a, Γ'⟩
  · rw [e] at r; exact r
  · rw [e] at r; exact fun F' H' cls dx q S2 i => r F' H' cls dx q (key F' Γ' H' S2).1 i
  · rw [e] at r; exact fun F' H' q S2 => let ⟨k1, k2, k3⟩ := key F' Γ' H' S2; ⟨k1, k2, k3, r F' H' q k1⟩
theorem rr_nil : RR' T [] rNil := pa_nil.weak fun σ H Q ⟨B, F0, F, Γ, r⟩ => r.ret.2 [] trivial
def tSx (T : Tx) (c : M Rf) : TE := fun σ H Q => ∃ B F0, tS T B F0 c σ H Q
theorem re_x (h : RE T e ca) : PE T.X e (tSx T ca) := ⟨fun pins s σ H Q I ⟨B, F0, q⟩ => (h B F0).run pins s σ H Q I q⟩
theorem IsPd.mono {F' H' : Hp} {Γ' : List Sl} {v : V} {r : Rf} (h : IsPd T.X.K T.cm B F Γ σ H v r) (hr : ∀ d, r ≠ .own d) (q : Same F F') : IsPd T.X.K T.cm B F' Γ' σ H' v r := by
  cases r with
  | dat d => exact Is.mono q _ h
  | own d => exact absurd rfl (hr d)
  | slot i => exact h
theorem rr_cons {es : List Expr} {cs : M (List Rf)} (ha : RE T e ca) (hr : RR' T es cs) (hs : starEach (e :: es) T.X.env = (false, eval e T.X.env) :: starEach es T.X.env := by rfl) : RR' T (e :: es) (rCons ca cs) :=
  (pa_cons (re_x ha) hr hs).weak fun σ H Q ⟨B, F0, F, Γ, r⟩ => ⟨B, F0, F, Γ, r.bnd.mono fun x F1 Γ1 H1 q1 S1 r1 v hv => by
    cases x with
    | dat d => exact ⟨B, F0, F1, Γ1, r1.bnd.mono fun rs F2 Γ2 H2 q2 S2 r2 vs hvs => r2.ret.2 _ ⟨Is.mono q2 _ hv, (fun _ z => by cases z), hvs⟩⟩
    | slot i => exact ⟨B, F0, F1, Γ1, r1.bnd.mono fun rs F2 Γ2 H2 q2 S2 r2 vs hvs => r2.ret.2 _ ⟨hv.1, (fun _ z => by cases z), hvs⟩⟩
    | own d =>
      obtain ⟨p, ho, rfl, h1, h2, h3, h4, h5⟩ := hv
      refine ⟨upd B p ho, F0, F1, Γ1, (r1.bnd.frame h2 h1 h3 h5 h4.ntb).mono fun rs F2 Γ2 H2 q2 S2 ⟨SB, k2, k3, r2⟩ vs hvs => ?_⟩
      refine r2.ret.2 (.ref p :: vs) ⟨⟨p, ho, rfl, k2, h2, k3, h4.mono q2, fun i e he hσ => ?_⟩, fun d' _ j e he hj => ?_, ?_⟩
      · obtain ⟨a, ho', g1, _, g3, _⟩ := S2.ow i e he
        rw [g1] at hσ; injection hσ with hσ; injection hσ with hσ; injection hσ with hσ; subst hσ
        rw [upd_same] at g3; cases g3
      · -- another waiting own value stands elsewhere
        have key : ∀ (vs : List V) (rs : List Rf), IsPds T.X.K T.cm (upd B p ho) F2 Γ2 σ H2 vs rs → ∀ (j : Nat) (e : D), rs[j]? = some (.own e) → vs[j]? ≠ some (.ref p) := fun vs => by
          induction vs with
          | nil => intro rs hp j e he; cases rs with
            | nil => cases he
            | cons _ _ => exact hp.elim
          | cons w ws ih =>
            intro rs hp j e he hj
            cases rs with
            | nil => exact hp.elim
            | cons r rs =>
              cases j with
              | zero =>
                simp only [List.getElem?_cons_zero, Option.some.injEq] at he hj
                subst he; subst hj
                obtain ⟨a, ho', g1, _, g3, _⟩ := hp.1
                injection g1 with g1; subst g1
                rw [upd_same] at g3; cases g3
              | succ j => exact ih rs hp.2.2 j e (by simpa using he) (by simpa using hj)
        exact key vs rs hvs j e he hj
      · have key : ∀ (vs : List V) (rs : List Rf), IsPds T.X.K T.cm (upd B p ho) F2 Γ2 σ H2 vs rs → IsPds T.X.K T.cm B F2 Γ2 σ H2 vs rs := fun vs => by
          induction vs with
          | nil => intro rs hp; cases rs <;> exact hp
          | cons w ws ih =>
            intro rs hp
            cases rs with
            | nil => exact hp
            | cons r rs =>
              refine ⟨?_, hp.2.1, ih rs hp.2.2⟩
              cases r with
              | dat d => exact hp.1
              | slot i => exact hp.1
              | own d =>
                obtain ⟨a, ho', g1, g2, g3, g4⟩ := hp.1
                exact ⟨a, ho', g1, g2, Same.free (.up h2) g3, g4⟩
        exact key vs rs hvs⟩
theorem IsPd.monoH {H' : Hp} {v : V} {r : Rf} (h : IsPd T.X.K T.cm B F Γ σ H v r) (q : Same H H') : IsPd T.X.K T.cm B F Γ σ H' v r := by
  cases r with
  | dat d => exact h
  | slot i => exact h
  | own d =>
    obtain ⟨a, ho, h1, h2, h3, h4, h5, h6⟩ := h
    exact ⟨a, ho, h1, h2, h3, q _ _ h4, h5, h6⟩
theorem IsPds.monoH {H' : Hp} (q : Same H H') : ∀ {vs : List V} {rs : List Rf}, IsPds T.X.K T.cm B F Γ σ H vs rs → IsPds T.X.K T.cm B F Γ σ H' vs rs
  | [], [], h => h
  | _ :: _, _ :: _, h => ⟨h.1.monoH q, h.2.1, IsPds.monoH q h.2.2⟩
  | [], _ :: _, h => h.elim
  | _ :: _, [], h => h.elim
def stAll : List Nat → List Rf → M Unit
  | [], [] => ret ()
  | i :: is, r :: rs => bnd (stR i r) fun _ => stAll is rs
  | _, _ => fail
def setAll (σ : St) : List Nat → List V → St
  | i :: is, v :: vs => setAll (σ.set i (some v)) is vs
  | _, _ => σ
theorem stAll_ok : ∀ {is : List Nat} {rs : List Rf} {vs : List V} {F : Hp} {Γ : List Sl} {σ : St} {H : Hp} {P : Unit → Hp → List Sl → St → Hp → Prop}, RunS T B F0 (stAll is rs) F Γ σ H P → (∀ i ∈ is, NoIo T i) → is.Nodup → (∀ i ∈ is, ∀ j, Rf.slot j ∈ rs → j ∉ is) →
    IsPds T.X.K T.cm B F Γ σ H vs rs → ∃ F' Γ', P () F' Γ' (setAll σ is vs) H
  | [], [], vs, F, Γ, σ, H, P, r, _, _, _, h => by
    cases vs with
    | nil => exact ⟨F, Γ, r.ret.2⟩
    | cons _ _ => exact h.elim
  | i :: is, r0 :: rs, [], F, Γ, σ, H, P, r, _, _, _, h => h.elim
  | i :: is, r0 :: rs, v :: vs, F, Γ, σ, H, P, r, hio, nd, hsl, h => by
    obtain ⟨h1, h2, h3⟩ := h
    have hi := hio i List.mem_cons_self
    have nd' := List.nodup_cons.mp nd
    have rest : ∀ {F' : Hp} {Γ' : List Sl}, RunS T B F0 (stAll is rs) F' Γ' (σ.set i (some v)) H P → IsPds T.X.K T.cm B F' Γ' (σ.set i (some v)) H vs rs → ∃ F' Γ', P () F' Γ' (setAll (σ.set i (some v)) is vs) H := fun r' h' =>
      stAll_ok r' (fun j hj => hio j (List.mem_cons_of_mem _ hj)) nd'.2 (fun j hj k hk hm => hsl j (List.mem_cons_of_mem _ hj) k (List.mem_cons_of_mem _ hk) (List.mem_cons_of_mem _ hm)) h'
    -- the others behind the store into i
    have keep : ∀ {F' : Hp} {Γ' : List Sl}, Same F F' → (∀ a, F a = none → F' a ≠ none → ∃ (j : Nat) (e : D), Γ[j]? = some (.own e) ∧ σ[j]? = some (some (.ref a))) → (∀ (j : Nat) (e : D), Γ'[j]? = some (.own e) → (j ≠ i ∧ Γ[j]? = some (.own e)) ∨ (j = i ∧ r0 = .own e)) →
        IsPds T.X.K T.cm B F' Γ' (σ.set i (some v)) H vs rs := fun {F' Γ'} q hF hΓ => by
      have key : ∀ (ws : List V) (qs : List Rf), (∀ d, r0 = .own d → ∀ (j : Nat) (e : D), qs[j]? = some (.own e) → ws[j]? ≠ some v) → (∀ j, Rf.slot j ∈ qs → j ≠ i) → IsPds T.X.K T.cm B F Γ σ H ws qs → IsPds T.X.K T.cm B F' Γ' (σ.set i (some v)) H ws qs := fun ws => by
        induction ws with
        | nil => intro qs _ _ hp; cases qs <;> exact hp
        | cons w ws ih =>
          intro qs hne hsl' hp
          cases qs with
          | nil => exact hp
          | cons r1 qs =>
            refine ⟨?_, hp.2.1, ih qs (fun d hd j e he => by have := hne d hd (j + 1) e (by simpa using he); simpa using this) (fun j hj => hsl' j (List.mem_cons_of_mem _ hj)) hp.2.2⟩
            cases r1 with
            | dat d => exact Is.mono q _ hp.1
            | slot j =>
              have hj := hsl' j List.mem_cons_self
              show (σ.set i (some v))[j]? = some (some w)
              rw [List.getElem?_set_ne (Ne.symm hj)]
              exact hp.1
            | own d =>
              obtain ⟨a, ho, g1, g2, g3, g4, g5, g6⟩ := hp.1
              refine ⟨a, ho, g1, ?_, g3, g4, g5.mono q, fun j e he hσ => ?_⟩
              · cases z : F' a with
                | none => rfl
                | some o =>
                  obtain ⟨j, e, k1, k2⟩ := hF a g2 (by rw [z]; simp)
                  exact absurd k2 (g6 j e k1)
              · rcases hΓ j e he with ⟨k1, k2⟩ | ⟨k1, k2⟩
                · rw [List.getElem?_set_ne (Ne.symm k1)] at hσ
                  exact g6 j e k2 hσ
                · subst k1
                  rcases get_set hσ with ⟨_, _, k3⟩ | ⟨k3, _⟩
                  · injection k3 with k3
                    exact hne e k2 0 d rfl (by simp [g1, ← k3])
                  · exact k3 rfl
      exact key vs rs h2 (fun j hj hji => hsl i List.mem_cons_self j (List.mem_cons_of_mem _ hj) (by subst hji; exact List.mem_cons_self)) h3
    cases r0 with
    | dat d =>
      have r1 := (r.bnd.gSet hi h1).2
      exact rest r1 (keep (.refl _) (fun a h0 h1 => absurd h0 h1) fun j e he => by
        rcases get_set he with ⟨_, _, k⟩ | ⟨k1, k2⟩
        · cases k
        · exact .inl ⟨k1, k2⟩)
    | own d =>
      have r1 := (r.bnd.gOwn hi h1).2
      exact rest r1 (keep (.refl _) (fun a h0 h1 => absurd h0 h1) fun j e he => by
        rcases get_set he with ⟨k0, _, k⟩ | ⟨k1, k2⟩
        · injection k with k; subst k; exact .inr ⟨k0, rfl⟩
        · exact .inl ⟨k1, k2⟩)
    | slot j =>
      obtain ⟨d, F', q, i1, S', r1, a, ho, rfl, g1, g2, g3⟩ := r.bnd.bnd.capSlot h1
      have r2 := (r1.gSet hi i1).2
      refine rest r2 (keep q (fun b h0 h1' => ?_) fun k e he => ?_)
      · subst g3
        by_cases hb : b = a
        · subst hb; exact ⟨j, d, g1, h1⟩
        · rw [upd_ne hb] at h1'; exact absurd h0 h1'
      · rcases get_set he with ⟨_, _, k⟩ | ⟨k1, k2⟩
        · cases k
        · rcases get_set k2 with ⟨_, _, k⟩ | ⟨k3, k4⟩
          · cases k
          · exact .inl ⟨k1, k4⟩
  | [], _ :: _, vs, F, Γ, σ, H, P, r, _, _, _, h => r.2.elim
  | _ :: _, [], vs, F, Γ, σ, H, P, r, _, _, _, h => r.2.elim
def noSlot (is : List Nat) (rs : List Rf) : Bool := rs.all fun r => match r with
  | .slot j => !is.contains j
  | _ => true
def sPar (is : List Nat) (c : M (List Rf)) : M Fl := bnd c fun rs => if noSlot is rs then bnd (stAll is rs) fun _ => ret .nx else fail
theorem par_weak {is : List Nat} {c : M (List Rf)} {D : Ends} {σ : St} {H : Hp} (hio : ∀ i ∈ is, NoIo T i) (nd : is.Nodup) (h : tSt T B F0 (sPar is c) D σ H) : tAR T c σ H fun vs H1 => vs.length = is.length ∧ ∀ H2, Same H1 H2 → (∀ b ps, H2 b = some (.tbl ps) → H1 b = some (.tbl ps)) → D.nx (setAll σ is vs) H2 := by
  obtain ⟨F, Γ, r⟩ := h
  refine ⟨B, F0, F, Γ, r.bnd.run.mono fun rs F1 Γ1 H1 q1 S1 r1 vs hvs => ?_⟩
  by_cases hn : noSlot is rs = true
  · rw [if_pos hn] at r1
    have hsl : ∀ i ∈ is, ∀ j, Rf.slot j ∈ rs → j ∉ is := fun i _ j hj hm => by
      have := List.all_eq_true.mp hn _ hj
      simp only [Bool.not_eq_true', List.contains_eq_mem] at this
      exact absurd hm (by simpa using this)
    have hl : vs.length = is.length := by
      have l1 : ∀ (vs : List V) (rs : List Rf), IsPds T.X.K T.cm B F1 Γ1 σ H1 vs rs → vs.length = rs.length := fun vs => by
        induction vs with
        | nil => intro rs hp; cases rs with
          | nil => rfl
          | cons _ _ => exact hp.elim
        | cons v vs ih => intro rs hp; cases rs with
          | nil => exact hp.elim
          | cons r rs => simp [ih rs hp.2.2]
      have l2 : ∀ (is : List Nat) (rs : List Rf) (Γ : List Sl), is.length ≠ rs.length → (∃ p, stAll is rs Γ = some p) → ∃ e Γ', stAll is rs Γ = some (.error e, Γ') := fun is => by
        induction is with
        | nil => intro rs Γ hne ⟨p, hp⟩; cases rs with
          | nil => exact absurd rfl hne
          | cons _ _ => cases hp
        | cons i is ih => intro rs Γ hne ⟨p, hp⟩; cases rs with
          | nil => cases hp
          | cons r rs =>
            have hp : bnd (stR i r) (fun _ => stAll is rs) Γ = some p := hp
            show ∃ e Γ', bnd (stR i r) (fun _ => stAll is rs) Γ = some (.error e, Γ')
            unfold bnd at hp ⊢
            rcases e : stR i r Γ with _ | ⟨x | u, Γ'⟩
            · rw [e] at hp; cases hp
            · exact ⟨x, Γ', rfl⟩
            · rw [e] at hp
              exact ih rs Γ' (fun z => hne (by simp [z])) ⟨p, hp⟩
      have noErr : ∀ (is : List Nat) (rs : List Rf) (Γ : List Sl) (e : DL.D) (Γ' : List Sl), stAll is rs Γ ≠ some (.error e, Γ') := fun is => by
        induction is with
        | nil => intro rs Γ e Γ' hp; cases rs <;> cases hp
        | cons i is ih => intro rs Γ e Γ' hp; cases rs with
          | nil => cases hp
          | cons r rs =>
            have hp : bnd (stR i r) (fun _ => stAll is rs) Γ = some (.error e, Γ') := hp
            have st : ∀ (r : Rf) (Γ : List Sl) (e : DL.D) (Γ' : List Sl), stR i r Γ ≠ some (.error e, Γ') := fun r Γ e Γ' hq => by
              cases r with
              | dat d => simp only [stR, gSet] at hq; split at hq <;> cases hq
              | own d => simp only [stR, gOwn] at hq; split at hq <;> cases hq
              | slot j =>
                simp only [stR, bnd, capR] at hq
                split at hq
                · cases hq
                · rename_i e1; split at e1 <;> cases e1
                · rename_i e1; split at e1
                  · injection e1 with e1; injection e1 with e1 e2; subst e2
                    simp only [gSet] at hq; split at hq <;> cases hq
                  · cases e1
            unfold bnd at hp
            rcases e1 : stR i r Γ with _ | ⟨x | u, Γ1⟩
            · rw [e1] at hp; cases hp
            · exact st r Γ x Γ1 e1
            · rw [e1] at hp; exact ih rs Γ1 e Γ' hp
      rw [l1 vs rs hvs]
      by_cases hne : is.length = rs.length
      · exact hne.symm
      · exfalso
        have r2 := r1.bnd.2
        rcases e : stAll is rs Γ1 with _ | p
        · rw [e] at r2; exact r2
        · obtain ⟨x, Γ', h1⟩ := l2 is rs Γ1 hne ⟨p, e⟩
          exact noErr is rs Γ1 x Γ' h1
    refine ⟨hl, fun H2 q2 hb => ?_⟩
    have S2 : T.Sat B F0 F1 Γ1 σ H2 := S1.step ⟨.of q2, .refl _, S1.fh.trans q2, fun _ _ e => .inl e, fun t => t.step (.refl _) (fun _ _ e => q2 _ _ e) hb fun _ _ e => .inl e⟩
    obtain ⟨F', Γ', r2⟩ := stAll_ok (r1.bnd.step (.refl _) S2) hio nd hsl (hvs.monoH q2)
    exact r2.ret.2
  · rw [if_neg hn] at r1
    exact r1.2.elim
end
end DL
namespace DL
open PySem L2
section
variable {T : Tx} {B F0 F : Hp} {Γ : List Sl} {σ : St} {H : Hp} {es : List Expr} {cr : M (List Rf)} {pos px py pz pt : Pos} {x y z : Str} {a b c : Expr} {kt k2 : Nat} {pt2 : Pos}
theorem rs_par2 (i j : Nat) (hr : RR' T [a, b] cr) (hc : T.X.calm = true) (hN : T.X.N.Nodup) (hi : T.X.N[i]? = some x := by rfl) (hj : T.X.N[j]? = some y := by rfl) (hij : i ≠ j := by decide)
    (hx : T.X.env.scope.names.lookup x = some .local := by rfl) (hy : T.X.env.scope.names.lookup y = some .local := by rfl) (h0 : ∀ k ∈ [i, j], NoIo T k := by intro k hk; first | exact Or.inl rfl | (refine Or.inr ?_; simp only [List.mem_cons, List.not_mem_nil, or_false] at hk; omega))
    (hw : swappedStores [.Tuple [.Name x px, .Name y py] kt pt] (.Tuple [a, b] k2 pt2) T.X.env = pure (some [x, y]) := by rfl)
    (hs : swapsWithSole [.Tuple [.Name x px, .Name y py] kt pt] (.Tuple [a, b] k2 pt2) pos.line T.X.env = pure false := by rfl) :
    RS T (.Assign [.Tuple [.Name x px, .Name y py] kt pt] (.Tuple [a, b] k2 pt2) pos) (sPar [i, j] cr) := fun B F0 =>
  (ps_par hc hN hi hj hij hx hy hr hw hs).weak fun D σ H h => by
    obtain ⟨B1, F1, F, Γ, r⟩ := par_weak h0 (by simp [hij]) h
    refine ⟨B1, F1, F, Γ, r.mono fun rs F' Γ' H' q S p vs hvs => ?_⟩
    obtain ⟨hl, p⟩ := p vs hvs
    match vs, hl with
    | [v, w], _ => exact ⟨v, w, rfl, p _ (.refl _) fun _ _ e => e⟩
def gNm : List Nat → TGs
  | [] => gNil
  | i :: is => gCons (gName i) (gNm is)
theorem gNm_ok : ∀ {is : List Nat} {vs : List V} {σ : St} {H : Hp} {Q : St → Hp → Prop}, vs.length = is.length → Q (setAll σ is vs) H → gNm is vs σ H Q
  | [], [], σ, H, Q, _, h => ⟨rfl, h⟩
  | i :: is, v :: vs, σ, H, Q, hl, h => ⟨v, vs, rfl, gNm_ok (by simpa using hl) h⟩
  | [], _ :: _, _, _, _, hl, _ => by cases hl
  | _ :: _, [], _, _, _, hl, _ => by cases hl
theorem nm_nil {X : Cx} : PGs X [] (gNm []) := pgs_nil
theorem nm_cons {X : Cx} {ts : List Expr} {is : List Nat} (i : Nat) (h : PGs X ts (gNm is)) (hN : X.N.Nodup) (hi : X.N[i]? = some x := by rfl) (hx : Loc X.env.scope x := by first | exact Or.inl rfl | exact Or.inr rfl)
    (hf : X.fn x = true ∨ X.env.scope.names.lookup x = some .local := by first | exact .inl rfl | exact .inr rfl | assumption) (hs : (assignEach (.Name x px :: ts) X.env).map (·.2) = assign (.Name x px) X.env :: (assignEach ts X.env).map (·.2) := by rfl) : PGs X (.Name x px :: ts) (gNm (i :: is)) :=
  pgs_cons (pg_name hN hi hx hf) h hs
theorem rs_parG {is : List Nat} {ts : List Expr} {vs : List Expr} {n : Nat} (hr : RR' T vs cr) (hg : PGs T.X ts (gNm is)) (hc : T.X.calm = true) (hn : (assignEach ts T.X.env).length = n := by rfl) (hst : (assignEach ts T.X.env).findIdx? (·.1) = none := by rfl) (hni : is.length = n := by rfl) (nd : is.Nodup := by decide) (hz : is.length ≤ 64 := by decide)
    (h0 : ∀ k ∈ is, NoIo T k := by intro k hk; first | exact Or.inl rfl | (refine Or.inr ?_; simp only [List.mem_cons, List.not_mem_nil, or_false] at hk; omega))
    (hs : swapsWithSole [.Tuple ts kt pt] (.Tuple vs k2 pt2) pos.line T.X.env = pure false := by rfl) (hw : swappedStores [.Tuple ts kt pt] (.Tuple vs k2 pt2) T.X.env = pure none := by rfl)
    (h1 : (assignEach [.Tuple ts kt pt] T.X.env).map (·.2) = [assign (.Tuple ts kt pt) T.X.env] := by rfl) :
    RS T (.Assign [.Tuple ts kt pt] (.Tuple vs k2 pt2) pos) (sPar is cr) := fun B F0 =>
  (ps_asg (pe_tup hr) (pg_tup hc hg hn hst) hs hw h1).weak fun D σ H h => by
    obtain ⟨B1, F1, F, Γ, r⟩ := par_weak h0 nd h
    refine ⟨B1, F1, F, Γ, r.mono fun rs F' Γ' H' q S p vs hvs => ?_⟩
    obtain ⟨hl, p⟩ := p vs hvs
    refine ⟨by rw [hl]; exact le_big (by unfold big; omega), fun a ha => ⟨a, vs, rfl, .inl (.inl upd_same), by rw [hl, hni], gNm_ok hl (p _ (.up ha) fun _ _ e => upd_tbl rfl e)⟩⟩
end
def runW (c : M Bool) (b : M Fl) : Nat → M Fl
  | 0 => fail
  | n + 1 => bnd c fun k => if k then bnd b fun f => match f with
      | .nx => runW c b n
      | .ct => runW c b n
      | .bk => ret .nx
      | .rt r => ret (.rt r)
    else ret .nx
open Classical in
noncomputable def sWhile (c : M Bool) (b : M Fl) : M Fl := fun Γ => if h : ∃ n, runW c b n Γ ≠ none then runW c b h.choose Γ else none
theorem runW_le {c : M Bool} {b : M Fl} : ∀ {n : Nat} {Γ : List Sl} {p : Except D Fl × List Sl} {m : Nat}, runW c b n Γ = some p → n ≤ m → runW c b m Γ = some p := by
  intro n
  induction n with
  | zero => intro Γ p m h; cases h
  | succ n ih =>
    intro Γ p m h hm
    obtain ⟨m, rfl⟩ : ∃ k, m = k + 1 := ⟨m - 1, by omega⟩
    simp only [runW] at h ⊢
    rcases e : c Γ with _ | ⟨x | k, Γ1⟩
    · rw [bnd_none e] at h; cases h
    · rw [bnd_err e] at h ⊢; exact h
    · rw [bnd_ok e] at h ⊢
      cases k with
      | false => exact h
      | true =>
        simp only [if_true] at h ⊢
        rcases e2 : b Γ1 with _ | ⟨x | f, Γ2⟩
        · rw [bnd_none e2] at h; cases h
        · rw [bnd_err e2] at h ⊢; exact h
        · rw [bnd_ok e2] at h ⊢
          cases f with
          | nx => exact ih h (by omega)
          | ct => exact ih h (by omega)
          | bk => exact h
          | rt r => exact h
theorem sWhile_eq {c : M Bool} {b : M Fl} {n : Nat} {Γ : List Sl} {p : Except D Fl × List Sl} (h : runW c b n Γ = some p) : sWhile c b Γ = some p := by
  have hx : ∃ n, runW c b n Γ ≠ none := ⟨n, by rw [h]; simp⟩
  unfold sWhile
  rw [dif_pos hx]
  have h2 := hx.choose_spec
  rcases e : runW c b hx.choose Γ with _ | q
  · exact absurd e h2
  · have a1 := runW_le e (Nat.le_max_left _ n)
    have a2 := runW_le h (Nat.le_max_right hx.choose n)
    rw [a1] at a2
    exact a2
theorem sWhile_some {c : M Bool} {b : M Fl} {Γ : List Sl} {p : Except D Fl × List Sl} (h : sWhile c b Γ = some p) : ∃ n, runW c b n Γ = some p := by
  unfold sWhile at h
  split at h
  · exact ⟨_, h⟩
  · cases h
theorem sWhile_step {c : M Bool} {b : M Fl} {Γ Γ1 Γ2 : List Sl} {f : Fl} (h1 : c Γ = some (.ok true, Γ1)) (h2 : b Γ1 = some (.ok f, Γ2)) (hf : f = .nx ∨ f = .ct) : sWhile c b Γ = sWhile c b Γ2 := by
  have key : ∀ n, runW c b (n + 1) Γ = runW c b n Γ2 := fun n => by
    simp only [runW]
    rw [bnd_ok h1]
    simp only [if_true]
    rw [bnd_ok h2]
    rcases hf with rfl | rfl <;> rfl
  rcases e : sWhile c b Γ2 with _ | p
  · rcases e2 : sWhile c b Γ with _ | q
    · rfl
    · obtain ⟨n, hn⟩ := sWhile_some e2
      cases n with
      | zero => cases hn
      | succ n => rw [key] at hn; rw [sWhile_eq hn] at e; cases e
  · obtain ⟨n, hn⟩ := sWhile_some e
    exact sWhile_eq (n := n + 1) (by rw [key]; exact hn)
section
variable {T : Tx} {c : Expr} {body : List Stmt} {tc : M Bool} {cb : M Fl} {pos : Pos}
theorem rs_while (hp : PassesOwn (model T.X.prog T.X.w) T.X.A T.X.env T.X.xe) (hc : RT T c tc) (hb : RSs T body cb) : RS T (.While c body [] pos) (sWhile tc cb) := fun B F0 =>
  (ps_while hp (hc B F0) (hb B F0)).weak fun D σ H ⟨F, Γ, S, r⟩ => by
    have ⟨n, hn⟩ : ∃ n, runW tc cb n Γ = sWhile tc cb Γ := by
      rcases e : sWhile tc cb Γ with _ | p
      · rw [e] at r; exact r.elim
      · exact sWhile_some e
    rw [← hn] at r
    refine ⟨fun m σ H => ∃ F Γ, RunS T B F0 (runW tc cb m) F Γ σ H (fin T B D), ⟨n, F, Γ, S, r⟩, ?_⟩
    rintro m σ H ⟨F, Γ, r⟩
    cases m with
    | zero => exact r.2.elim
    | succ m =>
      simp only [runW] at r
      refine ⟨F, Γ, r.bnd.run.mono fun k F1 Γ1 H1 q1 S1 r1 => ?_⟩
      cases k with
      | false =>
        rw [if_neg (by simp)]
        rw [if_neg (by simp)] at r1
        exact r1.ret.2
      | true =>
        rw [if_pos rfl]
        rw [if_pos rfl] at r1
        refine ⟨fun σ' H' => ∃ F Γ, RunS T B F0 (runW tc cb m) F Γ σ' H' (fin T B D), fun σ' H' h => ⟨m, Nat.lt_succ_self _, h⟩, F1, Γ1, r1.bnd.mono fun f F2 Γ2 σ2 H2 q2 S2 r2 => ?_⟩
        cases f with
        | nx => exact ⟨F2, Γ2, r2⟩
        | ct => exact ⟨F2, Γ2, r2⟩
        | bk => exact r2.ret.2
        | rt r => exact r2.ret.2
end
def Walk (T : Tx) (J : It) (F : Hp) (ds : List D) : Prop := ∀ (i : Nat) (F' H' : Hp), Same F F' → Same F' H' →
  (∀ d : D, ds[i]? = some d → J.go i H' ∧ ∀ x H2, J.yld i H' x H2 → ∃ F2, Step T.cm F' H' F2 H2 ∧ T.Is F2 x d) ∧ (i = ds.length → J.stop i H')
def tI (T : Tx) (B F0 : Hp) (c : M (List D)) : TI := fun σ H R => ∃ F Γ, Run T B F0 c F Γ σ H fun ds F' Γ' H' => ∀ J, Walk T J F' ds → R J H'
def RI (T : Tx) (tg iter : Expr) (c : M (List D)) : Prop := ∀ B F0, PI T.X tg iter (tI T B F0 c)
def loopF (g : D → M Unit) (b : M Fl) : List D → M Fl
  | [] => ret .nx
  | d :: ds => bnd (g d) fun _ => bnd b fun f => match f with
    | .nx => loopF g b ds
    | .ct => loopF g b ds
    | .bk => ret .nx
    | .rt r => ret (.rt r)
def sFor (c : M (List D)) (g : D → M Unit) (b : M Fl) : M Fl := bnd c (loopF g b)
section
variable {T : Tx} {tg iter : Expr} {body : List Stmt} {ci : M (List D)} {g : D → M Unit} {cb : M Fl} {pos : Pos}
theorem rs_for (hp : PassesOwn (model T.X.prog T.X.w) T.X.A T.X.env T.X.xe) (hc : T.X.calm = true) (hi : RI T tg iter ci) (hg : RG T tg g) (hb : RSs T body cb)
    (hs : ∀ x, foldedSetIterable iter T.X.env x = pure x := by intro _; rfl) : RS T (.For tg iter body [] pos) (sFor ci g cb) := fun B F0 =>
  (ps_for hp hc (hi B F0) (hg B F0) (hb B F0) hs).weak fun D σ H ⟨F, Γ, r⟩ => ⟨F, Γ, r.bnd.run.mono fun ds F1 Γ1 H1 q1 S1 r1 J hJ => by
    refine ⟨fun i m σ H => ∃ F Γ, Same F1 F ∧ m = ds.length - i ∧ i ≤ ds.length ∧ RunS T B F0 (loopF g cb (ds.drop i)) F Γ σ H (fin T B D), ⟨ds.length, F1, Γ1, .refl _, by simp, Nat.zero_le _, by simpa using r1⟩, ?_⟩
    rintro i m σ H ⟨F, Γ, q, rfl, hi, r⟩
    obtain ⟨w1, w2⟩ := hJ i F H q r.1.fh
    by_cases hlt : i < ds.length
    · obtain ⟨go, yl⟩ := w1 ds[i] (by simp [hlt])
      rw [List.drop_eq_getElem_cons hlt] at r
      refine .inr ⟨go, fun σ' H' => ∃ F Γ, Same F1 F ∧ RunS T B F0 (loopF g cb (ds.drop (i + 1))) F Γ σ' H' (fin T B D), fun σ' H' ⟨F', Γ', q', r'⟩ => ⟨ds.length - (i + 1), by omega, F', Γ', q', rfl, hlt, r'⟩, fun x H2 hy => ?_⟩
      obtain ⟨F2, t, ix⟩ := yl x H2 hy
      refine ⟨F2, Γ, _, ix, ((r.step t.ff (r.1.step t)).bnd).mono fun _ F3 Γ3 σ3 H3 q3 S3 r3 => ⟨F3, Γ3, r3.bnd.mono fun f F4 Γ4 σ4 H4 q4 S4 r4 => ?_⟩⟩
      cases f with
      | nx => exact ⟨F4, Γ4, ((q.trans t.ff).trans q3).trans q4, r4⟩
      | ct => exact ⟨F4, Γ4, ((q.trans t.ff).trans q3).trans q4, r4⟩
      | bk => exact r4.ret.2
      | rt r => exact r4.ret.2
    · have e : ds.drop i = [] := List.drop_eq_nil_of_le (by omega)
      rw [e] at r
      exact .inl ⟨w2 (by omega), r.ret.2⟩⟩
end
def strD (x : Str) : List D := x.cps.toList.map fun c => .str ⟨#[c]⟩
def seqI : D → Option (List D)
  | .lst xs => some xs
  | .tup xs => some xs
  | .str x => some (strD x)
  | _ => none
def ofO {α : Type} : Option α → M α
  | some a => ret a
  | none => fail
def sIter (c : M Rf) : M (List D) := bnd (cap c) fun d => ofO (seqI d)
section
variable {T : Tx} {tg e a b c3 : Expr} {ca : M Rf} {cs : M (List D)} {p pos : Pos} {F H : Hp}
theorem walk_lst {F : Hp} {a : Addr} {vs : List V} {ds : List D} (h : SqL T.X.K F a vs) (hs : IsAll T.X.K T.cm F vs ds) : Walk T (Itl T.X.K a) F ds := fun i F' H' q fh => by
  have hr : SqL T.X.K H' a vs := sql_same fh (sql_same q h)
  have hl := hs.length
  refine ⟨fun d hd => ?_, fun hle => ⟨vs, hr, by omega⟩⟩
  obtain ⟨v, h1, h2⟩ := hs.get hd
  refine ⟨⟨vs, v, hr, h1⟩, fun x H2 ⟨e, hy⟩ => ?_⟩
  subst e
  have hx := hy vs hr
  rw [h1] at hx
  cases hx
  exact ⟨F', .refl fh, h2.mono q _⟩
theorem walk_tup {F : Hp} {a : Addr} {vs : List V} {ds : List D} (h : SqT T.X.K F a vs) (hs : IsAll T.X.K T.cm F vs ds) : Walk T (Itt T.X.K a) F ds := fun i F' H' q fh => by
  have hr : SqT T.X.K H' a vs := sqt_same fh (sqt_same q h)
  have hl := hs.length
  refine ⟨fun d hd => ?_, fun hle => ⟨vs, hr, by omega⟩⟩
  obtain ⟨v, h1, h2⟩ := hs.get hd
  refine ⟨⟨vs, v, hr, h1⟩, fun x H2 ⟨e, hy⟩ => ?_⟩
  subst e
  have hx := hy vs hr
  rw [h1] at hx
  cases hx
  exact ⟨F', .refl fh, h2.mono q _⟩
theorem walk_str {F : Hp} {x : Str} : Walk T (Its x) F (strD x) := fun i F' H' q fh => by
  have hl : (strD x).length = x.cps.size := by simp [strD]
  refine ⟨fun d hd => ?_, fun hle => by show x.cps.size ≤ i; omega⟩
  have hi : i < x.cps.size := by rw [← hl]; exact lt_of_get hd
  refine ⟨hi, fun v H2 ⟨e, c, hc, hv⟩ => ?_⟩
  subst e; subst hv
  have : d = .str ⟨#[c]⟩ := by
    simp only [strD, List.getElem?_map, Array.getElem?_toList, hc, Option.map_some, Option.some.injEq] at hd
    exact hd.symm
  subst this
  exact ⟨F', .refl fh, .str _⟩
theorem ofO_run {α : Type} {o : Option α} {B F0 F : Hp} {Γ : List Sl} {σ : St} {H : Hp} {P : α → Hp → List Sl → Hp → Prop} (r : Run T B F0 (ofO o) F Γ σ H P) : T.Sat B F0 F Γ σ H ∧ ∃ a, o = some a ∧ P a F Γ H := by
  cases o with
  | none => exact r.2.elim
  | some a => exact ⟨r.1, a, rfl, r.ret.2⟩
theorem ri_seq (h : RE T e ca) : RI T tg e (sIter ca) := fun B F0 => ⟨fun pins s σ H R I ⟨F, Γ, S, r⟩ => by
  have hd := rd_of h B F0
  have r2 := (Run.bnd (T := T) (B := B) (F0 := F0) (c := cap ca) (k := fun d => ofO (seqI d)) (P := fun ds F' Γ' H' => ∀ J, Walk T J F' ds → R J H') ⟨S, r⟩).2
  rcases q : cap ca Γ with _ | ⟨x | d, Γ'⟩
  · rw [q] at r2; exact r2.elim
  · refine (pi_list hd).run pins s σ H R I ⟨F, Γ, S, ?_⟩
    rw [q] at r2 ⊢
    exact r2
  · rw [q] at r2
    have go : ∀ F' H', Same F F' → T.Sat B F0 F' Γ' σ H' → ∃ ds, seqI d = some ds ∧ ∀ J, Walk T J F' ds → R J H' := fun F' H' q' S' => by
      have r3 : Run T B F0 (ofO (seqI d)) F' Γ' σ H' fun ds F' Γ' H' => ∀ J, Walk T J F' ds → R J H' := r2 F' H' q' S'
      obtain ⟨_, ds, e, k⟩ := ofO_run r3
      exact ⟨ds, e, k⟩
    cases d with
    | lst xs =>
      refine (pi_list hd).run pins s σ H R I ⟨F, Γ, S, ?_⟩
      rw [q]
      intro F' H' q' S' v hv
      obtain ⟨ds, e, k⟩ := go F' H' q' S'
      cases e
      have hv : T.Is F' v (.lst xs) := hv
      cases hv with
      | klst h1 h2 => exact ⟨_, rfl, ⟨_, sql_same S'.fh h1⟩, k _ (walk_lst h1 h2)⟩
      | obj h1 h2 => cases h2 with
        | lst h3 => exact ⟨_, rfl, ⟨_, .inl (.of (S'.fh _ _ (h1.flat rfl)))⟩, k _ (walk_lst (.inl (.of (h1.flat rfl))) h3)⟩
    | tup xs =>
      refine (pi_tup hd).run pins s σ H R I ⟨F, Γ, S, ?_⟩
      rw [q]
      intro F' H' q' S' v hv
      obtain ⟨ds, e, k⟩ := go F' H' q' S'
      cases e
      have hv : T.Is F' v (.tup xs) := hv
      cases hv with
      | ktup h1 h2 => exact ⟨_, rfl, ⟨_, .of (S'.fh _ _ h1)⟩, k _ (walk_tup (.of h1) h2)⟩
      | ktupZ h1 ha h2 => exact ⟨_, rfl, ⟨_, .inl (.inr ⟨_, S'.fh _ _ h1⟩)⟩, k _ (walk_tup (.inl (.inr ⟨_, h1⟩)) h2)⟩
      | obj h1 h2 => cases h2
    | str z =>
      refine (pi_str hd).run pins s σ H R I ⟨F, Γ, S, ?_⟩
      rw [q]
      intro F' H' q' S' v hv
      obtain ⟨ds, e, k⟩ := go F' H' q' S'
      cases e
      exact ⟨z, IsT.str (H := H') (.inl hv), k _ walk_str⟩
    | _ =>
      refine (pi_list hd).run pins s σ H R I ⟨F, Γ, S, ?_⟩
      rw [q]
      intro F' H' q' S'
      obtain ⟨ds, e, k⟩ := go F' H' q' S'
      cases e⟩
def rgD (lo : Int) (n : Nat) : List D := (List.range n).map fun i => .int (lo + (i : Nat))
theorem walk_rng {F : Hp} {lo : Int} {n : Nat} : Walk T (Itr lo n) F (rgD lo n) := fun i F' H' q fh => by
  have hl : (rgD lo n).length = n := by simp [rgD]
  refine ⟨fun d hd => ?_, fun hle => by show n ≤ i; omega⟩
  have hi : i < n := by rw [← hl]; exact lt_of_get hd
  refine ⟨hi, fun v H2 ⟨e, hv⟩ => ?_⟩
  subst e; subst hv
  have : d = .int (lo + (i : Nat)) := by
    simp only [rgD, List.getElem?_map, List.getElem?_range hi, Option.map_some, Option.some.injEq] at hd
    exact hd.symm
  subst this
  exact ⟨F', .refl fh, .int _⟩
abbrev sm62 (i : Int) : Bool := decide (-4611686018427387904 ≤ i) && decide (i < 4611686018427387904)
def range1 : List D → Option (List D)
  | [.int j] => if sm62 j then some (rgD 0 j.toNat) else none
  | _ => none
def range2 : List D → Option (List D)
  | [.int i, .int j] => if sm62 i && sm62 j then some (rgD i (j - i).toNat) else none
  | _ => none
def sRng (f : List D → Option (List D)) (c : M (List D)) : M (List D) := bnd c fun ds => ofO (f ds)
theorem ri_range1 (ha : RA T [a] cs) (hm : T.X.mg "range" = none) (hg : Gl T.X "range" := by rfl) (hs : starEach [a] T.X.env = [(false, eval a T.X.env)] := by rfl) : RI T tg (.Call (.Name "range" p) [a] [] pos) (sRng range1 cs) := fun B F0 =>
  ⟨fun pins s σ H R I ⟨F, Γ, r⟩ => (pi_range1 hg hm (ha B F0) hs).run pins s σ H R I ⟨F, Γ, r.bnd.mono fun ds F1 Γ1 H1 q1 S1 r1 vs hvs => by
    obtain ⟨_, ls, e, k⟩ := ofO_run r1
    match ds, hvs, e with
    | [.int j], .cons h .nil, e =>
      simp only [range1] at e
      split at e
      · rename_i hj
        cases e
        simp only [sm62, Bool.and_eq_true, decide_eq_true_eq] at hj
        exact ⟨j, by rw [IsT.int (H := H1) (.inl h)], by omega, by omega, k _ walk_rng⟩
      · cases e⟩⟩
theorem ri_range2 (ha : RA T [a, b] cs) (hm : T.X.mg "range" = none) (hg : Gl T.X "range" := by rfl) (hs : starEach [a, b] T.X.env = [(false, eval a T.X.env), (false, eval b T.X.env)] := by rfl) (hs2 : starEach [b] T.X.env = [(false, eval b T.X.env)] := by rfl) :
    RI T tg (.Call (.Name "range" p) [a, b] [] pos) (sRng range2 cs) := fun B F0 =>
  ⟨fun pins s σ H R I ⟨F, Γ, r⟩ => (pi_range2 hg hm (ha B F0) hs hs2).run pins s σ H R I ⟨F, Γ, r.bnd.mono fun ds F1 Γ1 H1 q1 S1 r1 vs hvs => by
    obtain ⟨_, ls, e, k⟩ := ofO_run r1
    match ds, hvs, e with
    | [.int i, .int j], .cons h (.cons h' .nil), e =>
      simp only [range2] at e
      split at e
      · rename_i hj
        cases e
        simp only [sm62, Bool.and_eq_true, decide_eq_true_eq] at hj
        exact ⟨i, j, by rw [IsT.int (H := H1) (.inl h), IsT.int (H := H1) (.inl h')], by omega, k _ walk_rng⟩
      · cases e⟩⟩
end
section
variable {T : Tx} {e : Expr} {ca : M Rf} {pos pos' : Pos} {x : Str} {op : Operator} {f : Int → Int → Int}
end
end DL
namespace DL
open PySem L2 PyProof.Rows
abbrev Ans := Except D Rf
abbrev Fn := List D → Option Ans
abbrev Fm := D → List D → Option (Ans × D)
def ResX (K : PySem.W.Frag) (cm : CM) (F H : Hp) (Q : VK) (E : XK) : Ans → Prop
  | .ok (.dat d) => ∀ v F' H', Step cm F H F' H' → Is K cm F' v d → Q v H'
  | .ok (.own d) => ∀ a ho F' H', Step cm F H F' H' → H a = none → F' a = none → H' a = some ho → OwnIs K cm F' ho d → Q (.ref a) H'
  | .ok (.slot _) => False
  | .error e => ∀ F' H' cls dx, Step cm F H F' H' → IsExc K cm F' cls dx e → E cls dx H'
def spD (K : PySem.W.Frag) (cm : CM) (n : Nat) (φ : Fn) : Sp := fun vs H Q E => ∃ F ds r, vs.length = n ∧ FT cm F H ∧ IsAll K cm F vs ds ∧ φ ds = some r ∧ ResX K cm F H Q E r
structure StepM (cm : CM) (a : Addr) (F H F' H' : Hp) : Prop where
  hh : ∀ b o, b ≠ a → H b = some o → H' b = some o ∨ (ntb o = false ∧ ∃ ps, H' b = some (.tbl ps))
  ff : Same F F'
  fh : Same F' H'
  nw : ∀ p o, F' p = some o → F p = some o ∨ H p = none
  tb : TabsF cm F H → TabsF cm F' H'
def ResM (K : PySem.W.Frag) (cm : CM) (a : Addr) (F H : Hp) (Q : VK) (E : XK) (d1 : D) : Ans → Prop
  | .ok (.dat d) => ∀ v ho1 F' H', StepM cm a F H F' H' → H' a = some ho1 → OwnIs K cm F' ho1 d1 → Is K cm F' v d → Q v H'
  | .ok (.own d) => ∀ b ho ho1 F' H', StepM cm a F H F' H' → H' a = some ho1 → OwnIs K cm F' ho1 d1 → H b = none → F' b = none → H' b = some ho → OwnIs K cm F' ho d → Q (.ref b) H'
  | .ok (.slot _) => False
  | .error e => ∀ ho1 F' H' cls dx, StepM cm a F H F' H' → H' a = some ho1 → OwnIs K cm F' ho1 d1 → IsExc K cm F' cls dx e → E cls dx H'
def spM (K : PySem.W.Frag) (cm : CM) (n : Nat) (φ : Fm) : Sp := fun vs H Q E => ∃ F a ho d0 ws ds r d1, vs = .ref a :: ws ∧ vs.length = n ∧ FT cm F H ∧ F a = none ∧ H a = some ho ∧ OwnIs K cm F ho d0 ∧ IsAll K cm F ws ds ∧ φ d0 ds = some (r, d1) ∧ ResM K cm a F H Q E d1 r
structure FnG (P : Program) (w : World) (K : PySem.W.Frag) (mg : Str → Option Value) (base : Heap) (k : Nat) (f : Addr) (fd : FuncData) (ps : List Str) (sp : Sp) : Prop where
  len : ∀ vs H Q E, sp vs H Q E → vs.length = ps.length
  run : ∀ (A : Around) (outer : List Env) (s : Shared) (H : Hp) (args : Args) (us : List Value) (vs : List V) (Q : VK) (E : XK), Room k A → A.guards = some [] → Env0 P w K mg base A outer s H → BindsTo s fd args (ps.zip us) → Vals vs us → sp vs H Q E →
    codeAny (model P w) A (.call (.ref f) args) (CR (L2.CX P w) outer P w H s Q E) s
theorem FnG.mono {P : Program} {w : World} {K : PySem.W.Frag} {mg : Str → Option Value} {base : Heap} {j k : Nat} {f : Addr} {fd : FuncData} {ps : List Str} {sp : Sp} (F : FnG P w K mg base j f fd ps sp) (h : j ≤ k) : FnG P w K mg base k f fd ps sp :=
  ⟨F.len, fun A outer s H args us vs Q E hr => F.run A outer s H args us vs Q E (hr.mono h)⟩
section
variable {P : Program} {w : World} {K : PySem.W.Frag} {mg : Str → Option Value} {base : Heap}
theorem fn_ofG {k : Nat} {f : Addr} {name qual : Str} {params : Arguments} {body : List Stmt} {scope : Scope} {dV kV doc pm cdv ct oc : Value} {an od : Option Addr}
    {osl : Array (Option Value)} {N ps : List Str} {sp : Sp} (lk : K.lookup f = some ⟨oc, od, .func (PySem.W.fnOf name qual params body scope dV kV doc pm an cdv ct), osl⟩) (hcd : PySem.W.codeIn K cdv qual = true) (S : FnScope N ps scope)
    (len : ∀ vs H Q E, sp vs H Q E → vs.length = ps.length)
    (hbody : ∀ (A : Around) (outer : List Env) (s : Shared) (H : Hp) (vs : List V) (Q : VK) (E : XK), Room k (A.deeper (envOfC qual scope s.heap.objs.size f cdv)) → A.guards = some [] → sp vs H Q E →
      ∃ t, PSs (cxOf (L2.CX P w) P w K mg base N qual scope f cdv A outer s H E) body t ∧ t { nx := fun _ H' => Q .non H', rt := Q } (L2.start N vs) H) :
    FnG P w K mg base (k + 1) f (PySem.W.fnOf name qual params body scope dV kV doc pm an cdv ct) ps sp := by
  refine ⟨len, fun A outer s H args us vs Q E hr hgd e0 hb r hsp => ?_⟩
  have hl := len _ _ _ _ hsp
  have KX : K.In s.heap := e0.mod.kin.keeps fun b o e => (e0.bs b o e).1
  have lim : s.heap.NoLimit := e0.mod.nolimit.keeps fun b o e => (e0.bs b o e).1
  have hkind : ∀ y ∈ ps.zip us, scope.names.lookup y.1 = some .local ∨ (scope.names.lookup y.1 = some .cell ∧ ((cellsFrom (s.heap.objs.size + 1) scope.names []).lookup y.1).isSome = true) := fun ⟨n, v⟩ hy => by
    rcases S.par n (List.of_mem_zip hy).1 with q | q
    · exact .inl q
    · exact .inr ⟨q, PySem.W.cellsFrom_some _ _ _ (.inl q)⟩
  refine codeAny_call_function hr.depth (KX _ _ lk) rfl S.co S.gen rfl (PySem.W.codeRec_of KX hcd) (hb _ _ _ _ ?_)
  refine wpAny_newFunctionEnv_cells S.kind hkind fun env he s1 x => ?_
  subst he
  refine ⟨lim.keeps x.toInCall.keep, codeAny_func ?_⟩
  obtain ⟨t, ht, hq⟩ := hbody A outer s H vs Q E (hr.deeper _) hgd hsp
  have I : Inv (cxOf (L2.CX P w) P w K mg base N qual scope f cdv A outer s H E) [] (L2.start N vs) H s1 := inv_start S hr.hd e0 hl r x
  refine wpAny_mono (ht.run [] s1 (L2.start N vs) H _ I hq) (fun fl s' hs => ?_) fun e s' hs => hs
  have fin : ∀ {σ' : L2.St} {H' : Hp} {v : V} {u : Value}, Inv (cxOf (L2.CX P w) P w K mg base N qual scope f cdv A outer s H E) [] σ' H' s' → RelV v u → Q v H' → CE outer P w H s Q u s' :=
    fun {σ' H' v u} J rv q => ⟨v, H', J.os, J.bare, J.base, J.hok, rv, q⟩
  cases fl with
  | ret u => obtain ⟨v, σ', H', J, rv, q⟩ := hs; exact fin J rv q
  | next => obtain ⟨σ', H', J, q⟩ := hs; exact fin (v := V.non) (u := Value.none) J rfl q
  | brk => obtain ⟨_, _, _, q⟩ := hs; exact False.elim q
  | cont => obtain ⟨_, _, _, q⟩ := hs; exact False.elim q
theorem okG {x qual : Str} {st : Stmt} {f : Addr} {fd : FuncData} {N ps : List Str} {k : Nat} {sp : Sp} (F : Fun K x qual st f fd) (S : FnScope N ps (defScope st)) (len : ∀ vs H Q E, sp vs H Q E → vs.length = ps.length)
    (hbody : ∀ (cdv : Value) (A : Around) (outer : List Env) (s : Shared) (H : Hp) (vs : List V) (Q : VK) (E : XK), Room k (A.deeper (envOfC qual (defScope st) s.heap.objs.size f cdv)) → A.guards = some [] → sp vs H Q E →
      ∃ t, PSs (cxOf (L2.CX P w) P w K mg base N qual (defScope st) f cdv A outer s H E) (defBody st) t ∧ t { nx := fun _ H' => Q .non H', rt := Q } (L2.start N vs) H) : FnG P w K mg base (k + 1) f fd ps sp := by
  obtain ⟨oc, od, kV, doc, pm, an, cdv, ct, osl, rfl, lk, hcd⟩ := F.ex
  exact fn_ofG lk hcd S len fun A outer s H vs Q E hr hg hsp => hbody cdv A outer s H vs Q E hr hg hsp
end
section
variable {X : Cx} {k : Nat} {f C : Addr} {fd : FuncData} {ps : List Str} {sp : Sp} {ds : List Value} {dvs : List V}
theorem run_fnG {E : XK} {pins : List (Addr × Obj)} {σ : L2.St} {H : Hp} {s : Shared} {Q : VK} {us : List Value} {vs : List V} (F : FnG X.prog X.w X.K X.mg X.base k f fd ps sp) (hr : Room k X.A) (hg : X.A.guards = some []) (hb : Binds X.K fd ps ds) (hd : Vals dvs ds) (hx : PassesAt (L2.CX X.prog X.w) X σ E)
    (I : Inv X pins σ H s) (r : Vals vs us) (h : sp (vs ++ dvs) H Q E) : wpAny (model X.prog X.w) X.A (call (.ref f) us) (EP X pins σ Q) X.xe s := by
  have r2 : Vals (vs ++ dvs) (us ++ ds) := r.append hd
  have hl : (us ++ ds).length = ps.length := by rw [← r2.length]; exact F.len _ _ _ _ h
  refine wpAny_call (codeAny_mono (F.run X.A X.stack s H ⟨us, []⟩ (us ++ ds) (vs ++ dvs) Q E hr hg I.env0 (hb s us I.kIn hl) r2 h) fun r s' hq => ?_)
  cases r with
  | error e => exact hx pins H s e s' I hq
  | ok fl =>
    cases fl with
    | ret u => exact I.after hq
    | next => exact False.elim hq
    | brk => exact False.elim hq
    | cont => exact False.elim hq
end
structure Cok (T : Tx) (k : Nat) : Prop where
  room : Room k T.X.A
  grd : T.X.A.guards = some []
  calm : T.X.calm = true
  nd : T.X.N.Nodup
  tk : Takes T.X T.W
  own : PassesOwn (model T.X.prog T.X.w) T.X.A T.X.env T.X.xe
  wc : T.cm.w = T.X.w
theorem Cok.mono {T : Tx} {j k : Nat} (c : Cok T k) (h : j ≤ k) : Cok T j := ⟨c.room.mono h, c.grd, c.calm, c.nd, c.tk, c.own, c.wc⟩
def st0 (n : Nat) (ds : List D) : List Sl := ds.map .dat ++ List.replicate (n - ds.length) .un
def answer (f : Fl) (Γ : List Sl) : Option Ans := match f with
  | .rt (.dat d) => some (.ok (.dat d))
  | .rt (.own d) => some (.ok (.own d))
  | .rt (.slot i) => match Γ[i]? with
    | some (.own d) => some (.ok (.own d))
    | some (.dat d) => some (.ok (.dat d))
    | _ => none
  | .nx => some (.ok (.dat .non))
  | _ => none
def runDef (n : Nat) (c : M Fl) : Fn := fun ds => match c (st0 n ds) with
  | none => none
  | some (.error e, _) => some (.error e)
  | some (.ok f, Γ) => answer f Γ
def answerM (f : Fl) (Γ : List Sl) (d1 : D) : Option (Ans × D) := match f with
  | .rt (.dat d) => some (.ok (.dat d), d1)
  | .rt (.own d) => some (.ok (.own d), d1)
  | .rt (.slot i) => if i = 0 then none else match Γ[i]? with
    | some (.own d) => some (.ok (.own d), d1)
    | some (.dat d) => some (.ok (.dat d), d1)
    | _ => none
  | .nx => some (.ok (.dat .non), d1)
  | _ => none
def lent (Γ : List Sl) : Option D := match Γ[0]? with
  | some (Sl.own d) => some d
  | _ => none
theorem lent_eq {Γ : List Sl} {d : D} (h : lent Γ = some d) : Γ[0]? = some (.own d) := by
  unfold lent at h
  split at h
  · rename_i d' e; cases h; exact e
  · cases h
def runDefM (n : Nat) (c : M Fl) : Fm := fun d0 ds => match c (.own d0 :: st0 (n - 1) ds) with
  | none => none
  | some (.error e, Γ) => (lent Γ).map fun d1 => (.error e, d1)
  | some (.ok f, Γ) => (lent Γ).bind fun d1 => answerM f Γ d1
section
variable {P : Program} {w : World} {K : PySem.W.Frag} {mg : Str → Option Value} {base : Heap} {cm : CM}
abbrev dtx (P : Program) (w : World) (K : PySem.W.Frag) (mg : Str → Option Value) (base : Heap) (cm : CM) (N : List Str) (qual : Str) (sc : Scope) (f : Addr) (cdv : Value) (A : Around) (outer : List Env) (s : Shared) (H : Hp) (E : XK) (io : Option Addr) : Tx :=
  { X := cxOf (L2.CX P w) P w K mg base N qual sc f cdv A outer s H E, cm := cm, W := fun cls d _ H => E cls d H, io := io }
theorem cok_body [wc : WC cm w] {N ps : List Str} {qual : Str} {sc : Scope} {f : Addr} {cdv : Value} {A : Around} {outer : List Env} {s : Shared} {H : Hp} {E : XK} {io : Option Addr} {k : Nat} (S : FnScope N ps sc) (hr : Room k (A.deeper (envOfC qual sc s.heap.objs.size f cdv))) (hg : A.guards = some []) :
    Cok (dtx P w K mg base cm N qual sc f cdv A outer s H E io) k :=
  ⟨hr, hg, rfl, S.nd, takes_of rfl rfl rfl rfl, passes_of rfl, wc.eq⟩
theorem start_dt {N : List Str} {vs : List V} {ds : List D} {F : Hp} (i : IsAll K cm F vs ds) : (st0 N.length ds).length = (L2.start N vs).length ∧
    (∀ (j : Nat) (d : D), (st0 N.length ds)[j]? = some (.dat d) → ∃ v, (L2.start N vs)[j]? = some (some v) ∧ Is K cm F v d) ∧ ∀ (j : Nat) (d : D), (st0 N.length ds)[j]? ≠ some (.own d) := by
  have hl := i.length
  have key : ∀ (j : Nat) (sl : Sl), (st0 N.length ds)[j]? = some sl → sl = .un ∨ ∃ d, sl = .dat d ∧ ds[j]? = some d := fun j sl e => by
    unfold st0 at e
    by_cases hj : j < ds.length
    · rw [List.getElem?_append_left (by simpa using hj), List.getElem?_map] at e
      rcases q : ds[j]? with _ | d
      · rw [q] at e; cases e
      · rw [q] at e; cases e; exact .inr ⟨d, rfl, rfl⟩
    · rw [List.getElem?_append_right (by simpa using hj), List.getElem?_replicate] at e
      split at e
      · cases e; exact .inl rfl
      · cases e
  refine ⟨by simp [st0, L2.start, hl], fun j d e => ?_, fun j d e => ?_⟩
  · rcases key j _ e with q | ⟨d', q, h⟩
    · cases q
    · cases q
      obtain ⟨v, h1, h2⟩ := i.get h
      refine ⟨v, ?_, h2⟩
      unfold L2.start
      rw [List.getElem?_append_left (by rw [List.length_map]; exact lt_of_get h1), List.getElem?_map, h1]
      rfl
  · rcases key j _ e with q | ⟨d', q, h⟩ <;> cases q
theorem body_pure [WC cm w] {qual : Str} {sc : Scope} {body : List Stmt} {f : Addr} {cdv : Value} {N ps : List Str} {k n : Nat} {c : M Fl} {A : Around} {outer : List Env} {s : Shared} {H : Hp} {E : XK} {vs : List V} {Q : VK} (S : FnScope N ps sc)
    (hb : Cok (dtx P w K mg base cm N qual sc f cdv A outer s H E none) k → RSs (dtx P w K mg base cm N qual sc f cdv A outer s H E none) body c)
    (hr : Room k (A.deeper (envOfC qual sc s.heap.objs.size f cdv))) (hgd : A.guards = some []) (h : spD K cm n (runDef N.length c) vs H Q E) :
    ∃ t, PSs (cxOf (L2.CX P w) P w K mg base N qual sc f cdv A outer s H E) body t ∧ t { nx := fun _ H' => Q .non H', rt := Q } (L2.start N vs) H := by
  obtain ⟨F, ds, r, hn, ⟨fh, tb⟩, i, hφ, hres⟩ := h
  refine ⟨_, hb (cok_body S hr hgd) H F, F, st0 N.length ds, ?_, ?_⟩
  · obtain ⟨q1, q2, q3⟩ := start_dt (N := N) i
    exact ⟨fh, .refl _, tb, .refl _, fun p o e => .inl e, q1, q2, fun j d e => absurd e (q3 j d), fun j k d e a h1 => absurd h1 (q3 j d), fun a z => by cases z⟩
  · have step : ∀ {F' : Hp} {Γ' : List Sl} {σ' : L2.St} {H' : Hp}, Sat K cm none H F F' Γ' σ' H' → Step cm F H F' H' := fun S => ⟨S.bh, S.f0, S.fh, S.nw, fun _ => S.tb⟩
    unfold runDef at hφ
    rcases e : c (st0 N.length ds) with _ | ⟨x | fl, Γ'⟩
    · rw [e] at hφ; cases hφ
    · rw [e] at hφ; cases hφ
      exact fun F' H' σ' cls dx q S' ie => hres F' H' cls dx (step S') ie
    · rw [e] at hφ
      intro F' H' σ' q S'
      have hφ : answer fl Γ' = some r := hφ
      cases fl with
      | nx => cases hφ; exact hres .non F' H' (step S') .non
      | bk => cases hφ
      | ct => cases hφ
      | rt r0 =>
        intro v hv
        cases r0 with
        | dat d => cases hφ; exact hres v F' H' (step S') hv
        | own d =>
          cases hφ
          obtain ⟨a, ho, rfl, h1, h2, h3, h4, _⟩ := hv
          exact hres a ho F' H' (step S') h2 h1 h3 h4
        | slot j =>
          obtain ⟨h1, d, h2⟩ := hv
          simp only [answer, h2] at hφ
          cases hφ
          obtain ⟨a, ho, g1, g2, g3, g4, g5⟩ := S'.ow j d h2
          rw [g1] at h1; injection h1 with h1; injection h1 with h1; subst h1
          exact hres a ho F' H' (step S') g3 g2 g4 g5
theorem def_pure [WC cm w] {x qual : Str} {st : Stmt} {f : Addr} {fd : FuncData} {N ps : List Str} {k : Nat} {c : M Fl} (Fu : Fun K x qual st f fd) (S : FnScope N ps (defScope st))
    (hb : ∀ (cdv : Value) (A : Around) (outer : List Env) (s : Shared) (H : Hp) (E : XK), Cok (dtx P w K mg base cm N qual (defScope st) f cdv A outer s H E none) k → RSs (dtx P w K mg base cm N qual (defScope st) f cdv A outer s H E none) (defBody st) c) :
    FnG P w K mg base (k + 1) f fd ps (spD K cm ps.length (runDef N.length c)) :=
  okG Fu S (fun vs H Q E h => h.choose_spec.choose_spec.choose_spec.1) (fun cdv A outer s H vs Q E hr hgd h => body_pure S (hb cdv A outer s H E) hr hgd h)
structure FunC (K : PySem.W.Frag) (x qual : Str) (st : Stmt) (f : Addr) (fd : FuncData) (c : Addr) : Prop where
  ex : ∃ (oc : Value) (od : Option Addr) (kV doc pm : Value) (an : Option Addr) (ct : Value) (osl : Array (Option Value)),
    fd = PySem.W.fnOf x qual (defArgs st) (defBody st) (defScope st) .none kV doc pm an (.ref c) ct ∧ K.lookup f = some ⟨oc, od, .func fd, osl⟩ ∧ PySem.W.codeIn K (.ref c) qual = true
theorem def_pureC [WC cm w] {x qual : Str} {st : Stmt} {f c0 : Addr} {fd : FuncData} {N ps : List Str} {k : Nat} {c : M Fl} (Fu : FunC K x qual st f fd c0) (S : FnScope N ps (defScope st))
    (hb : ∀ (A : Around) (outer : List Env) (s : Shared) (H : Hp) (E : XK), Cok (dtx P w K mg base cm N qual (defScope st) f (.ref c0) A outer s H E none) k → RSs (dtx P w K mg base cm N qual (defScope st) f (.ref c0) A outer s H E none) (defBody st) c) :
    FnG P w K mg base (k + 1) f fd ps (spD K cm ps.length (runDef N.length c)) := by
  obtain ⟨oc, od, kV, doc, pm, an, ct, osl, rfl, lk, hcd⟩ := Fu.ex
  exact fn_ofG lk hcd S (fun vs H Q E h => h.choose_spec.choose_spec.choose_spec.1) fun A outer s H vs Q E hr hg h => body_pure S (hb A outer s H E) hr hg h
def del (H : Hp) (a : Addr) : Hp := fun b => if b = a then none else H b
theorem del_same {H : Hp} {a : Addr} : del H a a = none := by simp [del]
theorem del_ne {H : Hp} {a b : Addr} (h : b ≠ a) : del H a b = H b := by simp [del, h]
theorem body_lent [WC cm w] {qual : Str} {sc : Scope} {body : List Stmt} {f : Addr} {cdv : Value} {N ps : List Str} {k : Nat} {c : M Fl} {A : Around} {outer : List Env} {s : Shared} {H : Hp} {E : XK} {vs : List V} {Q : VK} (S : FnScope N ps sc) (hp : 0 < ps.length)
    (hb : ∀ a : Addr, Cok (dtx P w K mg base cm N qual sc f cdv A outer s H E (some a)) k → RSs (dtx P w K mg base cm N qual sc f cdv A outer s H E (some a)) body c)
    (hr : Room k (A.deeper (envOfC qual sc s.heap.objs.size f cdv))) (hgd : A.guards = some []) (h : spM K cm ps.length (runDefM N.length c) vs H Q E) :
    ∃ t, PSs (cxOf (L2.CX P w) P w K mg base N qual sc f cdv A outer s H E) body t ∧ t { nx := fun _ H' => Q .non H', rt := Q } (L2.start N vs) H := by
  obtain ⟨F, a, ho, d0, ws, ds, r, d1, rfl, hn, ⟨fh, tb⟩, fa, ha, hod, i, hφ, hres⟩ := h
  have hNl : ps.length ≤ N.length := by have := congrArg List.length S.pre; rw [List.length_take] at this; omega
  refine ⟨_, hb a (cok_body S hr hgd) (del H a) F, F, .own d0 :: st0 (N.length - 1) ds, ?_, ?_⟩
  · have nn : ∃ y N', N = y :: N' := by
      cases N with
      | nil => simp only [List.length_nil] at hNl; omega
      | cons y N' => exact ⟨y, N', rfl⟩
    obtain ⟨y, N', rfl⟩ := nn
    have e0 : L2.start (y :: N') (V.ref a :: ws) = some (V.ref a) :: L2.start N' ws := by simp [L2.start]
    obtain ⟨q1, q2, q3⟩ := start_dt (N := N') i
    have e1 : (y :: N').length - 1 = N'.length := by simp
    rw [e1]
    refine ⟨fh, .of fun b o e => ?_, tb, .refl _, fun p o e => .inl e, ?_, fun j d e => ?_, fun j d e => ?_, fun j k d e b h1 h2 _ _ => ?_, fun b z => ?_⟩
    · by_cases hb : b = a
      · subst hb; rw [del_same] at e; cases e
      · rw [del_ne hb] at e; exact e
    · show _ = (L2.start (y :: N') (V.ref a :: ws)).length
      rw [e0]; simp [q1]
    · show ∃ v, (L2.start (y :: N') (V.ref a :: ws))[j]? = _ ∧ _
      rw [e0]
      cases j with
      | zero => cases e
      | succ j => exact q2 j d (by simpa using e)
    · show ∃ b ho, (L2.start (y :: N') (V.ref a :: ws))[j]? = _ ∧ _
      rw [e0]
      cases j with
      | zero => cases e; exact ⟨a, ho, rfl, fa, del_same, ha, hod⟩
      | succ j => exact absurd (by simpa using e) (q3 j d)
    · cases j with
      | zero => cases k with
        | zero => rfl
        | succ k => exact absurd (by simpa using h2) (q3 k e)
      | succ j => exact absurd (by simpa using h1) (q3 j d)
    · have z : a = b := Option.some.inj z
      subst z
      show (L2.start (y :: N') (V.ref a :: ws))[0]? = _
      rw [e0] <;> rfl
  · have nwH : ∀ {F' : Hp}, (∀ p o, F' p = some o → F p = some o ∨ del H a p = none) → F' a = none → ∀ p o, F' p = some o → F p = some o ∨ H p = none := fun nw na p o e => by
      have hpa : p ≠ a := fun z => by subst z; rw [na] at e; cases e
      rcases nw p o e with h | h
      · exact .inl h
      · rw [del_ne hpa] at h; exact .inr h
    have step : ∀ {F' : Hp} {Γ' : List Sl} {σ' : L2.St} {H' : Hp} {d : D}, Sat K cm (some a) (del H a) F F' Γ' σ' H' → Γ'[0]? = some (.own d) → F' a = none ∧ StepM cm a F H F' H' ∧ ∃ ho1, H' a = some ho1 ∧ OwnIs K cm F' ho1 d := fun {F' Γ' σ' H' d} S e => by
      obtain ⟨b, ho1, g1, g2, g3, g4, g5⟩ := S.ow 0 d e
      have := S.ioA a rfl
      rw [this] at g1; injection g1 with g1; injection g1 with g1; injection g1 with g1; subst g1
      exact ⟨g2, ⟨fun b o hb q => S.bh b o (by rw [del_ne hb]; exact q), S.f0, S.fh, nwH S.nw g2, fun _ => S.tb⟩, ho1, g4, g5⟩
    unfold runDefM at hφ
    rcases e : c (.own d0 :: st0 (N.length - 1) ds) with _ | ⟨x | fl, Γ'⟩
    · rw [e] at hφ; cases hφ
    · rw [e] at hφ
      rcases hl : lent Γ' with _ | d2
      · simp [hl] at hφ
      · simp only [hl, Option.map_some, Option.some.injEq, Prod.mk.injEq] at hφ
        obtain ⟨rfl, rfl⟩ := hφ
        intro F' H' σ' cls dx q S' ie
        obtain ⟨_, t, ho1, k1, k2⟩ := step S' (lent_eq hl)
        exact hres ho1 F' H' cls dx t k1 k2 ie
    · rw [e] at hφ
      rcases hl : lent Γ' with _ | d2
      · simp [hl] at hφ
      · simp only [hl, Option.bind_some] at hφ
        have hd := lent_eq hl
        intro F' H' σ' q S'
        obtain ⟨na, t, ho1, k1, k2⟩ := step S' hd
        cases fl with
        | nx => cases hφ; exact hres .non ho1 F' H' t k1 k2 .non
        | bk => cases hφ
        | ct => cases hφ
        | rt r0 =>
          intro v hv
          cases r0 with
          | dat d => cases hφ; exact hres v ho1 F' H' t k1 k2 hv
          | own d =>
            cases hφ
            obtain ⟨b, hob, rfl, h1, h2, h3, h4, h5⟩ := hv
            have hba : b ≠ a := fun z => by subst z; exact h5 0 _ hd (S'.ioA b rfl)
            rw [del_ne hba] at h2
            exact hres b hob ho1 F' H' t k1 k2 h2 h1 h3 h4
          | slot j =>
            obtain ⟨h1, d, h2⟩ := hv
            simp only [answerM] at hφ
            split at hφ
            · cases hφ
            · rename_i hj
              simp only [h2] at hφ
              cases hφ
              obtain ⟨b, hob, g1, g2, g3, g4, g5⟩ := S'.ow j d h2
              rw [g1] at h1; injection h1 with h1; injection h1 with h1; subst h1
              have hba : b ≠ a := fun z => by subst z; exact hj (S'.ap j 0 _ _ b h2 hd g1 (S'.ioA b rfl))
              rw [del_ne hba] at g3
              exact hres b hob ho1 F' H' t k1 k2 g3 g2 g4 g5
theorem spM_len {n : Nat} {φ : Fm} {vs : List V} {H : Hp} {Q : VK} {E : XK} (h : spM K cm n φ vs H Q E) : vs.length = n := by
  obtain ⟨_, _, _, _, _, _, _, _, rfl, hn, _⟩ := h
  exact hn
theorem def_lent [WC cm w] {x qual : Str} {st : Stmt} {f : Addr} {fd : FuncData} {N ps : List Str} {k : Nat} {c : M Fl} (Fu : Fun K x qual st f fd) (S : FnScope N ps (defScope st)) (hp : 0 < ps.length)
    (hb : ∀ (a : Addr) (cdv : Value) (A : Around) (outer : List Env) (s : Shared) (H : Hp) (E : XK), Cok (dtx P w K mg base cm N qual (defScope st) f cdv A outer s H E (some a)) k → RSs (dtx P w K mg base cm N qual (defScope st) f cdv A outer s H E (some a)) (defBody st) c) :
    FnG P w K mg base (k + 1) f fd ps (spM K cm ps.length (runDefM N.length c)) :=
  okG Fu S (fun vs H Q E h => spM_len h) (fun cdv A outer s H vs Q E hr hgd h => body_lent S hp (fun a => hb a cdv A outer s H E) hr hgd h)
end
def liftX (o : Option Ans) : M Rf := fun Γ => match o with
  | some (.ok (.dat d)) => some (.ok (.dat d), Γ)
  | some (.ok (.own d)) => some (.ok (.own d), Γ)
  | some (.error e) => some (.error e, Γ)
  | _ => none
def sCallF (φ : Fn) (c : M (List D)) : M Rf := bnd c fun ds => liftX (φ ds)
structure DefP (P : Program) (w : World) (K : PySem.W.Frag) (mg : Str → Option Value) (base : Heap) (cm : CM) (k : Nat) (x : Str) (ps : List Str) (φ : Fn) : Prop where
  ex : ∃ f fd, mg x = some (.ref f) ∧ PySem.W.keepIn K (.ref f) = true ∧ Binds K fd ps [] ∧ FnG P w K mg base k f fd ps (spD K cm ps.length φ)
structure DefM (P : Program) (w : World) (K : PySem.W.Frag) (mg : Str → Option Value) (base : Heap) (cm : CM) (k : Nat) (x : Str) (ps : List Str) (φ : Fm) : Prop where
  ex : ∃ f fd, mg x = some (.ref f) ∧ PySem.W.keepIn K (.ref f) = true ∧ Binds K fd ps [] ∧ FnG P w K mg base k f fd ps (spM K cm ps.length φ)
section
variable {T : Tx} {B F0 F : Hp} {Γ : List Sl} {σ : St} {H : Hp} {Q : VK}
theorem IsAll.len {K : PySem.W.Frag} {cm : CM} {F : Hp} {vs : List V} {ds : List D} (i : IsAll K cm F vs ds) {n : Nat} (h : ds.length = n) : vs.length = n := by rw [i.length, h]
theorem Run.liftX {o : Option Ans} (r : Run T B F0 (DL.liftX o) F Γ σ H fun r F' Γ' H' => ∀ v, IsRf T.X.K T.cm B F' Γ' σ H' v r → Q v H') : ∃ r, o = some r ∧ ResX T.X.K T.cm F H Q (WE T.W σ) r := by
  obtain ⟨S, r⟩ := r
  match o, r with
  | some (.ok (.dat d)), r => exact ⟨_, rfl, fun v F' H' t i => r F' H' t.ff (S.step t) v i⟩
  | some (.ok (.own d)), r =>
    refine ⟨_, rfl, fun a ho F' H' t n n' e h => r F' H' t.ff (S.step t) _ ⟨a, ho, rfl, n', S.bh.free n, e, h, fun i e' hg hs => ?_⟩⟩
    obtain ⟨a', ho', g1, _, _, g4, _⟩ := S.ow i e' hg
    rw [g1] at hs; injection hs with hs; injection hs with hs; injection hs with hs; subst hs
    rw [n] at g4; cases g4
  | some (.ok (.slot i)), r => exact r.elim
  | some (.error e), r => exact ⟨_, rfl, fun F' H' cls dx t i => r F' H' cls dx t.ff (S.step t) i⟩
  | none, r => exact r.elim
variable {k : Nat} {x : Str} {ps : List Str} {φ : Fn} {p pos : Pos} {e : Expr} {es : List Expr} {cs : M (List D)}
def argN (n : Nat) (φ : Fn) : Fn := fun ds => if ds.length = n then φ ds else none
theorem re_call (G : DefP T.X.prog T.X.w T.X.K T.X.mg T.X.base T.cm k x ps φ) (c : Cok T k) (ha : RA T (e :: es) cs) (hg : Gl T.X x := by rfl) (hdb : (x == ("__debug__" : Str)) = false := by decide)
    (he : starEach (e :: es) T.X.env = (false, eval e T.X.env) :: starEach es T.X.env := by rfl) (hpl : (backTo pos (starEach es T.X.env)).any (·.1) = false := by rfl) : RE T (.Call (.Name x p) (e :: es) [] pos) (sCallF (argN ps.length φ) cs) := fun B F0 => by
  obtain ⟨f, fd, hm, hk, hb, F⟩ := G.ex
  refine ⟨fun pins s σ H Q I ⟨F1, Γ1, r⟩ => ?_⟩
  refine wpAny_Call_Name_kw (ld_glob I hg hm ?_ hdb)
  refine PySem.W.callWith_K (h₀ := T.X.base) I.ok.mod.kin hk (thn ((ha B F0).run pos pins s σ H (fun vs H1 => spD T.X.K T.cm ps.length φ vs H1 Q (WE T.W σ)) I ⟨F1, Γ1, r.bnd.mono fun ds F2 Γ2 H2 q2 S2 r2 vs hvs => ?_⟩) fun us s1 ⟨vs, H1, I1, rv, q⟩ => ⟨I1.kIn, ?_⟩) he hpl
  · obtain ⟨r0, e0, h0⟩ := r2.liftX
    unfold argN at e0
    split at e0
    · rename_i hn
      exact ⟨F2, ds, r0, hvs.len hn, S2.ft, hvs, e0, h0⟩
    · cases e0
  · exact run_fnG F c.room c.grd hb .nil (passAt c.tk σ) I1 rv (by rw [List.append_nil]; exact q)
def lendX (φ : Fm) (i : Nat) (ds : List D) : M Rf := fun Γ => match Γ[i]? with
  | some (.own d0) => match φ d0 ds with
    | some (.ok (.dat d), d1) => some (.ok (.dat d), Γ.set i (.own d1))
    | some (.ok (.own d), d1) => some (.ok (.own d), Γ.set i (.own d1))
    | some (.error e, d1) => some (.error e, Γ.set i (.own d1))
    | _ => none
  | _ => none
def lendA (φ : Fm) (a : Rf) (ds : List D) : M Rf := match a with
  | .slot i => lendX φ i ds
  | _ => fail
theorem Run.lendX {φ : Fm} {i : Nat} {ds : List D} {v : V} (r : Run T B F0 (DL.lendX φ i ds) F Γ σ H fun r F' Γ' H' => ∀ v, IsRf T.X.K T.cm B F' Γ' σ H' v r → Q v H') (hv : σ[i]? = some (some v)) :
    ∃ a ho d0 r0 d1, v = .ref a ∧ F a = none ∧ H a = some ho ∧ OwnIs T.X.K T.cm F ho d0 ∧ φ d0 ds = some (r0, d1) ∧ ResM T.X.K T.cm a F H Q (WE T.W σ) d1 r0 := by
  obtain ⟨S, r⟩ := r
  unfold DL.lendX at r
  rcases q : Γ[i]? with _ | sl
  · simp only [q] at r
  cases sl with
  | un => simp only [q] at r
  | dat d => simp only [q] at r
  | own d0 =>
    simp only [q] at r
    obtain ⟨a, ho, h1, h2, h3, h4, h5⟩ := S.ow i d0 q
    rw [h1] at hv; injection hv with hv; injection hv with hv; subst hv
    have sat : ∀ {F' H' : Hp} {ho1 : HO} {d1 : D}, StepM T.cm a F H F' H' → H' a = some ho1 → OwnIs T.X.K T.cm F' ho1 d1 → T.Sat B F0 F' (Γ.set i (.own d1)) σ H' := fun t k1 k2 => S.write q h1 t.hh t.ff t.fh t.nw t.tb k1 k2
    refine ⟨a, ho, d0, ?_⟩
    rcases e : φ d0 ds with _ | ⟨r0, d1⟩
    · simp only [e] at r
    · refine ⟨r0, d1, rfl, h2, h4, h5, rfl, ?_⟩
      match r0, e with
      | .ok (.dat d), e =>
        simp only [e] at r
        exact fun v ho1 F' H' t k1 k2 iv => r F' H' t.ff (sat t k1 k2) v iv
      | .ok (.own d), e =>
        simp only [e] at r
        intro b hob ho1 F' H' t k1 k2 nb nF eb ob
        refine r F' H' t.ff (sat t k1 k2) _ ⟨b, hob, rfl, nF, S.bh.free nb, eb, ob, fun j e' hg hs => ?_⟩
        obtain ⟨d2, g⟩ : ∃ d2 : D, Γ[j]? = some (.own d2) := by
          rcases get_set hg with ⟨rfl, _, _⟩ | ⟨_, g⟩
          · exact ⟨d0, q⟩
          · exact ⟨e', g⟩
        obtain ⟨a', ho', g1, _, _, g4, _⟩ := S.ow j d2 g
        rw [g1] at hs; injection hs with hs; injection hs with hs; injection hs with hs; subst hs
        rw [nb] at g4; cases g4
      | .ok (.slot j), e => simp only [e] at r
      | .error x, e =>
        simp only [e] at r
        exact fun ho1 F' H' cls dx t k1 k2 ie => r F' H' cls dx t.ff (sat t k1 k2) ie
def mCons (a : M Rf) (cs : M (List D)) : M (Rf × List D) := bnd a fun r => bnd cs fun ds => ret (r, ds)
def sCallM (φ : Fm) (a : M Rf) (cs : M (List D)) : M Rf := bnd (mCons a cs) fun p => lendA φ p.1 p.2
def argM (n : Nat) (φ : Fm) : Fm := fun d ds => if ds.length + 1 = n then φ d ds else none
variable {φm : Fm} {ca : M Rf}
theorem re_callM (G : DefM T.X.prog T.X.w T.X.K T.X.mg T.X.base T.cm k x ps φm) (c : Cok T k) (hc : RE T e ca) (ha : RA T es cs) (hg : Gl T.X x := by rfl) (hdb : (x == ("__debug__" : Str)) = false := by decide)
    (he : starEach (e :: es) T.X.env = (false, eval e T.X.env) :: starEach es T.X.env := by rfl) (hpl : (backTo pos (starEach es T.X.env)).any (·.1) = false := by rfl) : RE T (.Call (.Name x p) (e :: es) [] pos) (sCallM (argM ps.length φm) ca cs) := fun B F0 => by
  obtain ⟨f, fd, hm, hk, hb, F⟩ := G.ex
  refine ⟨fun pins s σ H Q I ⟨F1, Γ1, r⟩ => ?_⟩
  refine wpAny_Call_Name_kw (ld_glob I hg hm ?_ hdb)
  refine PySem.W.callWith_K (h₀ := T.X.base) I.ok.mod.kin hk (thn ((pa_cons (hc B F0) (ha B F0) he).run pos pins s σ H (fun vs H1 => spM T.X.K T.cm ps.length φm vs H1 Q (WE T.W σ)) I
    ⟨F1, Γ1, r.bnd.bnd.mono fun r0 F1 Γ1 H1 q1 S1 r1 v hv => ⟨F1, Γ1, r1.bnd.mono fun ds F2 Γ2 H2 q2 S2 r2 vs hvs => ?_⟩⟩) fun us s1 ⟨vs, H1, I1, rv, q⟩ => ⟨I1.kIn, ?_⟩) he hpl
  · have r3 := r2.ret.2
    cases r0 with
    | dat d => exact r3.2.elim
    | own d => exact r3.2.elim
    | slot i =>
      obtain ⟨a, ho, d0, r0, d1, rfl, h1, h2, h3, h4, h5⟩ := Run.lendX r3 hv.1
      unfold argM at h4
      split at h4
      · rename_i hn
        exact ⟨F2, a, ho, d0, vs, ds, r0, d1, rfl, by simp only [List.length_cons, hvs.length, hn], S2.ft, h1, h2, h3, hvs, h4, h5⟩
      · cases h4
  · exact run_fnG F c.room c.grd hb .nil (passAt c.tk σ) I1 rv (by rw [List.append_nil]; exact q)
end
end DL
namespace DL
open PySem L2 PyProof.Rows
section
variable {T : Tx} {K : PySem.W.Frag} {cm : CM} {F H : Hp}
theorem AllT.one {vs : List V} {d : D} (h : AllT K cm F H vs [d]) : ∃ v, vs = [v] ∧ IsT K cm F H v d := by
  match vs, h with
  | [v], h => exact ⟨v, rfl, h.1⟩
theorem AllT.two {vs : List V} {d e : D} (h : AllT K cm F H vs [d, e]) : ∃ v u, vs = [v, u] ∧ IsT K cm F H v d ∧ IsT K cm F H u e := by
  match vs, h with
  | [v, u], h => exact ⟨v, u, rfl, h.1, h.2.1⟩
theorem IsT.rdL {v : V} {ds : List D} (hh : Same F H) (h : IsT K cm F H v (.lst ds)) : ∃ a vs, v = .ref a ∧ SqL K H a vs ∧ IsAll K cm F vs ds := h.lst hh
def lenF : List D → Option Rf
  | [.lst xs] => some (.dat (.int xs.length))
  | [.tup xs] => some (.dat (.int xs.length))
  | [.str x] => if x.length ≤ big then some (.dat (.int x.length)) else none
  | _ => none
theorem call_lenF : CallD T (.builtin "len") lenF := by
  intro pins s σ H vs us Q I r ⟨F, ds, fh, at_, h⟩
  match ds, at_, h with
  | [.lst xs], at_, h =>
    obtain ⟨v, rfl, i⟩ := at_.one
    obtain ⟨a, ws, rfl, g1, g2⟩ := i.rdL fh
    exact call_len_seq pins s σ H _ us Q I r ⟨a, ws, rfl, .inl g1, by rw [g2.length]; exact h.val fh (.int _)⟩
  | [.tup xs], at_, h =>
    obtain ⟨v, rfl, i⟩ := at_.one
    obtain ⟨a, ws, rfl, g1, g2⟩ := i.tup fh
    exact call_len_seq pins s σ H _ us Q I r ⟨a, ws, rfl, .inr g1, by rw [g2.length]; exact h.val fh (.int _)⟩
  | [.str x], at_, h =>
    obtain ⟨v, rfl, i⟩ := at_.one
    simp only [lenF] at h
    split at h
    · rename_i hl
      rw [i.str] at r
      exact call_len_str pins s σ H _ us Q I r ⟨x, rfl, le_big hl, h.val fh (.int _)⟩
    · exact h.elim
def listF : List D → Option Rf
  | [.lst xs] => some (.own (.lst xs))
  | [.tup xs] => some (.own (.lst xs))
  | [.str x] => if x.length ≤ big then some (.own (.lst (strD x))) else none
  | _ => none
theorem vals_signs {x : Str} {acc : Array Value} (h : ItemsOf (SignAt x) acc x.cps.size) : Vals (x.cps.toList.map fun c => V.str ⟨#[c]⟩) acc.toList := by
  obtain ⟨hs, hi⟩ := h
  have key : ∀ (l : List Nat) (its : List Value), l.length = its.length → (∀ (i : Nat) (c : Nat) (u : Value), l[i]? = some c → its[i]? = some u → ∃ t, u = .str ⟨#[c]⟩ t) → Vals (l.map fun c => V.str ⟨#[c]⟩) its := fun l => by
    induction l with
    | nil => intro its hl _; cases its with
      | nil => exact .nil
      | cons _ _ => cases hl
    | cons c l ih => intro its hl hx; cases its with
      | nil => cases hl
      | cons u its =>
        exact .cons (hx 0 c u rfl rfl) (ih its (by simpa using hl) fun i c u h1 h2 => hx (i + 1) c u (by simpa using h1) (by simpa using h2))
  refine key _ _ (by simp [hs]) fun i c u h1 h2 => ?_
  obtain ⟨c', t, e1, e2⟩ := hi i u (by simpa using h2)
  have : x.cps.toList[i]? = some c' := by simpa using e1
  rw [h1] at this; cases this
  exact ⟨t, e2⟩
theorem isAll_signs (F : Hp) (x : Str) : IsAll K cm F (x.cps.toList.map fun c => V.str ⟨#[c]⟩) (strD x) := by
  unfold strD
  induction x.cps.toList with
  | nil => exact .nil
  | cons c l ih => exact .cons (.str _) ih
theorem call_listF (hc : T.X.calm = true) : CallD T (.type "list") listF := by
  intro pins s σ H vs us Q I r ⟨F, ds, fh, at_, h⟩
  match ds, at_, h with
  | [.lst xs], at_, h =>
    obtain ⟨v, rfl, i⟩ := at_.one
    obtain ⟨a, ws, rfl, g1, g2⟩ := i.rdL fh
    exact call_list_of pins s σ H _ us Q I r ⟨a, ws, rfl, .inl g1, h.newLst fh g2⟩
  | [.tup xs], at_, h =>
    obtain ⟨v, rfl, i⟩ := at_.one
    obtain ⟨a, ws, rfl, g1, g2⟩ := i.tup fh
    exact call_list_of pins s σ H _ us Q I r ⟨a, ws, rfl, .inr g1, h.newLst fh g2⟩
  | [.str x], at_, h =>
    obtain ⟨v, rfl, i⟩ := at_.one
    simp only [listF] at h
    split at h
    · rename_i hl
      rw [i.str] at r
      obtain ⟨u, rfl, t, rfl⟩ := vals1 r
      refine call_list_str (I.ok.hd hc) x t (fun h' tk acc c' kp e it => ?_) (le_big hl)
      have hz : x.cps.toList.length ≤ sizeLine := by rw [Array.length_toList]; exact le_big hl
      exact ⟨.ref _, _, I.laid kp (Nat.le_refl _) (show ObjOk _ _ _ h' _ (.lst _) from ⟨by rw [List.length_map]; exact hz, acc.toList, c', vals_signs it, by rw [e]⟩), rfl, h.newLst fh (isAll_signs F x) _ (I.hok.fresh (Nat.le_refl _))⟩
    · exact h.elim
def tupleF : List D → Option Rf
  | [.lst xs] => some (.dat (.tup xs))
  | [.tup xs] => some (.dat (.tup xs))
  | _ => none
theorem call_tupleF : CallD T (.type "tuple") tupleF := by
  intro pins s σ H vs us Q I r ⟨F, ds, fh, at_, h⟩
  match ds, at_, h with
  | [.lst xs], at_, h =>
    obtain ⟨v, rfl, i⟩ := at_.one
    obtain ⟨a, ws, rfl, g1, g2⟩ := i.rdL fh
    exact call_tuple_of pins s σ H _ us Q I r ⟨a, ws, rfl, .inl ⟨g1, h.newTup fh g2⟩⟩
  | [.tup xs], at_, h =>
    obtain ⟨v, rfl, i⟩ := at_.one
    obtain ⟨a, ws, rfl, g1, g2⟩ := i.tup fh
    refine call_tuple_of pins s σ H _ us Q I r ⟨a, ws, rfl, .inr ⟨g1, ?_⟩⟩
    rcases i with i | ⟨b, ho, _, _, i⟩
    · exact h _ _ _ (.refl fh) i
    · cases i
def intsD : List D → Option (List Int)
  | [] => some []
  | .int i :: ds => (intsD ds).map (i :: ·)
  | _ => none
theorem intsD_vs : ∀ {ds : List D} {ns : List Int} {vs : List V}, intsD ds = some ns → IsAll K cm F vs ds → vs = ns.map .int
  | [], ns, vs, e, i => by cases e; cases i; rfl
  | d :: ds, ns, vs, e, i => by
    cases i with
    | cons i is =>
      cases d <;> first | (cases e; done) | skip
      rename_i j
      simp only [intsD, Option.map_eq_some_iff] at e
      obtain ⟨ms, e1, rfl⟩ := e
      rw [IsT.int (H := F) (.inl i), intsD_vs e1 is]
      rfl
def minL : List Int → Int
  | [] => 0
  | [i] => i
  | i :: is => if minL is < i then minL is else i
def maxL : List Int → Int
  | [] => 0
  | [i] => i
  | i :: is => if i < maxL is then maxL is else i
theorem minL_spec : ∀ (ns : List Int), ns ≠ [] → minL ns ∈ ns ∧ ∀ y ∈ ns, minL ns ≤ y
  | [], h => absurd rfl h
  | [i], _ => by simp [minL]
  | i :: j :: is, _ => by
    obtain ⟨h1, h2⟩ := minL_spec (j :: is) (by simp)
    simp only [minL] at h1 h2 ⊢
    split
    · rename_i hlt
      refine ⟨List.mem_cons_of_mem _ h1, fun y hy => ?_⟩
      rcases List.mem_cons.mp hy with rfl | hy
      · omega
      · exact h2 y hy
    · rename_i hlt
      refine ⟨List.mem_cons_self, fun y hy => ?_⟩
      rcases List.mem_cons.mp hy with rfl | hy
      · exact Int.le_refl _
      · have := h2 y hy; omega
theorem maxL_spec : ∀ (ns : List Int), ns ≠ [] → maxL ns ∈ ns ∧ ∀ y ∈ ns, y ≤ maxL ns
  | [], h => absurd rfl h
  | [i], _ => by simp [maxL]
  | i :: j :: is, _ => by
    obtain ⟨h1, h2⟩ := maxL_spec (j :: is) (by simp)
    simp only [maxL] at h1 h2 ⊢
    split
    · rename_i hlt
      refine ⟨List.mem_cons_of_mem _ h1, fun y hy => ?_⟩
      rcases List.mem_cons.mp hy with rfl | hy
      · omega
      · exact h2 y hy
    · rename_i hlt
      refine ⟨List.mem_cons_self, fun y hy => ?_⟩
      rcases List.mem_cons.mp hy with rfl | hy
      · exact Int.le_refl _
      · have := h2 y hy; omega
def minF : List D → Option Rf
  | [.int i, .int j] => some (.dat (.int (if j < i then j else i)))
  | [.lst ds] => match intsD ds with
    | some (n :: ns) => some (.dat (.int (minL (n :: ns))))
    | _ => none
  | _ => none
def maxF : List D → Option Rf
  | [.int i, .int j] => some (.dat (.int (if j > i then j else i)))
  | [.lst ds] => match intsD ds with
    | some (n :: ns) => some (.dat (.int (maxL (n :: ns))))
    | _ => none
  | _ => none
theorem call_minF (hc : T.X.calm = true) : CallD T (.builtin "min") minF := by
  intro pins s σ H vs us Q I r ⟨F, ds, fh, at_, h⟩
  match ds, at_, h with
  | [.int i, .int j], at_, h =>
    obtain ⟨v, u, rfl, i1, i2⟩ := at_.two
    exact call_min2 hc pins s σ H _ us Q I r ⟨i, j, by rw [i1.int, i2.int], h.val fh (.int _)⟩
  | [.lst xs], at_, h =>
    obtain ⟨v, rfl, i⟩ := at_.one
    obtain ⟨a, ws, rfl, g1, g2⟩ := i.rdL fh
    simp only [minF] at h
    split at h
    · rename_i n ns e
      have ew := intsD_vs e g2
      subst ew
      obtain ⟨m1, m2⟩ := minL_spec (n :: ns) (by simp)
      refine cr_min hc pins s σ H _ us Q I r ⟨a, n :: ns, rfl, g1, by simp, fun m h1 h2 => ?_⟩
      have : m = minL (n :: ns) := Int.le_antisymm (h2 _ m1) (m2 _ h1)
      rw [this]
      exact h.val fh (.int _)
    · exact h.elim
theorem call_maxF (hc : T.X.calm = true) : CallD T (.builtin "max") maxF := by
  intro pins s σ H vs us Q I r ⟨F, ds, fh, at_, h⟩
  match ds, at_, h with
  | [.int i, .int j], at_, h =>
    obtain ⟨v, u, rfl, i1, i2⟩ := at_.two
    exact call_max2 hc pins s σ H _ us Q I r ⟨i, j, by rw [i1.int, i2.int], h.val fh (.int _)⟩
  | [.lst xs], at_, h =>
    obtain ⟨v, rfl, i⟩ := at_.one
    obtain ⟨a, ws, rfl, g1, g2⟩ := i.rdL fh
    simp only [maxF] at h
    split at h
    · rename_i n ns e
      have ew := intsD_vs e g2
      subst ew
      obtain ⟨m1, m2⟩ := maxL_spec (n :: ns) (by simp)
      refine cr_max hc pins s σ H _ us Q I r ⟨a, n :: ns, rfl, g1, by simp, fun m h1 h2 => ?_⟩
      have : m = maxL (n :: ns) := Int.le_antisymm (m2 _ h1) (h2 _ m1)
      rw [this]
      exact h.val fh (.int _)
    · exact h.elim
def tyN : D → Option String
  | .non => some "NoneType"
  | .bl _ => some "bool"
  | .int _ => some "int"
  | .str _ => some "str"
  | .lst _ => some "list"
  | .tup _ => some "tuple"
  | .dic _ _ => some "dict"
  | _ => none
inductive TyZ (K : PySem.W.Frag) (H : Hp) : V → Value → Prop where
  | base {x : V} {t : Value} (h : TyX K H x t) : TyZ K H x t
  | fDictT {a : Addr} {o : Obj} {kvs : List (List Key × V)} (e : H a = some (.frz o (.dT kvs))) : TyZ K H (.ref a) (.type "dict")
theorem call_isiZ {X : Cx} {pins : List (Addr × Obj)} {s : Shared} {σ : L2.St} {H : Hp} {us : List Value} {Q : VK} {x c : V} {t u : Value} {b : Bool} (I : Inv X pins σ H s) (r : Vals [x, c] us) (k : ClsV c u) (ty : TyZ X.K H x t) (e : PySem.W.kitOne X.K t u = some b) (q : Q (.bl b) H) :
    wpAny (model X.prog X.w) X.A (call (.builtin "isinstance") us) (EP X pins σ Q) X.xe s := by
  cases ty with
  | base ty => exact call_isi pins s σ H _ us Q I r ⟨x, c, t, u, b, rfl, k, ty, e, q⟩
  | @fDictT a ob kvs ea =>
    obtain ⟨u1, u2, rfl, r1, r2⟩ := vals2 r
    have e2 := k.eq r2
    subst e2
    cases (show u1 = Value.ref a from r1)
    obtain ⟨_, _, _, xs, _, o, es, ep, h1, h2, _⟩ := (show ObjOk X.prog X.w H s.heap a (.frz ob (.dT kvs)) from I.hok a _ ea)
    exact PySem.W.kia_one PySem.W.kitx_dict I.kIn ⟨o, h1, h2.1⟩ e (fun z => nomatch z) fun tk => ⟨.bl b, H, I.tok tk, rfl, q⟩
theorem tyX_of {v : V} {d : D} {n : String} (hh : Same F H) (i : IsT K cm F H v d) (e : tyN d = some n) : TyZ K H v (.type n) := by
  cases d with
  | dic ks vs =>
    cases e
    obtain ⟨a, ho, rfl, r, oi⟩ := i.dic hh
    cases oi with
    | dK _ _ =>
      rcases r with r | ⟨_, o, r⟩
      · exact .base (.base (.dK r))
      · exact .base (.fDict r)
    | dT _ _ =>
      rcases r with r | ⟨_, o, r⟩
      · exact .base (.base (.dT r))
      · exact .fDictT r
  | _ =>
  refine .base ?_
  first | (cases e; done) | (cases e)
  all_goals first
  | (rw [i.non]; exact .base .non)
  | (rw [i.bl]; exact .base (.bl _))
  | (rw [i.int]; exact .base (.int _))
  | (rw [i.str]; exact .base (.str _))
  | (obtain ⟨a, vs, rfl, r, _⟩ := i.lst hh
     rcases r with (r | ⟨o, r⟩) | ⟨o, its, n, h1, h2, _⟩
     · exact .base (.lst r)
     · exact .base (.frz r)
     · exact .kList h1 h2)
  | (obtain ⟨a, vs, rfl, r, _⟩ := i.tup hh
     rcases r with (r | ⟨o, r⟩) | ⟨o, its, n, h1, h2, _⟩
     · exact .base (.tup r)
     · exact .fTuple r
     · exact .kTuple h1 h2)
end
end DL
namespace DL
open PySem L2 PyProof.Rows PySem.W
section
variable {T : Tx} {K : PySem.W.Frag} {cm : CM} {F H : Hp}
def reprF : List D → Option Rf
  | [d] => if okD 60 d && (py d).showable && decide ((py d).shown.length ≤ big) then some (.dat (.str (py d).shown)) else none
  | _ => none
theorem noDict_py : ∀ (n : Nat) (d : D), okD n d = true → (py d).hasDict = false := by
  intro n
  induction n with
  | zero => intro d h; cases d <;> first | (simp [okD] at h; done) | simp [py, PyData.hasDict]
  | succ n ih =>
    have key : ∀ xs : List D, xs.all (okD n) = true → PyData.hasDictAll (pyAll xs) = false := fun xs => by
      induction xs with
      | nil => intro _; simp [pyAll, PyData.hasDictAll]
      | cons x xs ih2 =>
        intro h
        simp only [List.all_cons, Bool.and_eq_true] at h
        simp [pyAll, PyData.hasDictAll, ih x h.1, ih2 h.2]
    intro d h
    cases d <;> first | (simp [okD] at h; done) | (simp [py, PyData.hasDict]; done) | skip
    · simp only [py, PyData.hasDict]; exact key _ (by simpa [okD] using h)
    · simp only [py, PyData.hasDict]; exact key _ (by simpa [okD] using h)
theorem call_reprF {k : Nat} (c : Cok T k) : CallD T (.builtin "repr") reprF := by
  intro pins s σ H vs us Q I r ⟨F, ds, fh, at_, h⟩
  match ds, at_, h with
  | [d], at_, h =>
    obtain ⟨v, rfl, i⟩ := at_.one
    simp only [reprF] at h
    split at h
    · rename_i ho
      simp only [Bool.and_eq_true, decide_eq_true_eq] at ho
      obtain ⟨⟨h1, h2⟩, h3⟩ := ho
      have q := h.val fh (.str _)
      obtain ⟨u, rfl, rx⟩ := vals1 r
      obtain ⟨as, rd⟩ := Dp.reads I _ v u (is_dp fh 60 d h1 i) rx
      have hu := c.room.units
      have hd := (py_plain 60 d h1).2
      have hsz : (py d).shown.length ≤ sizeLine := le_big h3
      cases d with
      | non => rw [i.non] at rx; cases (show u = Value.none from rx); exact PySem.P.repr_of_none ⟨.str _, H, I.tok _, ⟨_, rfl⟩, by simpa [py, PyData.shown] using q⟩
      | bl b => rw [i.bl] at rx; cases (show u = Value.bool b from rx); exact PySem.P.repr_of_bool ⟨.str _, H, I.tok _, ⟨_, rfl⟩, by simpa [py, PyData.shown] using q⟩
      | int j => rw [i.int] at rx; obtain ⟨t, rfl⟩ := rx; exact PySem.P.repr_of_int (by simpa [py, PyData.showable] using h2) ⟨.str _, H, I.tok _, ⟨_, rfl⟩, by simpa [py, PyData.shown] using q⟩
      | str x => rw [i.str] at rx; obtain ⟨t, rfl⟩ := rx; exact PySem.P.repr_of_str ⟨.str _, H, I.tok _, ⟨_, rfl⟩, by simpa [py, PyData.shown] using q⟩ (by simpa [py, PyData.shown] using hsz)
      | lst xs =>
        obtain ⟨a, ws, rfl, _⟩ := i.lst fh
        cases rx
        exact PySem.repr_of_reads' rd h2 (PyData.noDict_hsm (noDict_py 60 _ h1)) c.grd (by omega) (fun _ _ e => e) (fun h' u tk k => ⟨.str _, H, I.kept (t' := tk) k, ⟨u, rfl⟩, q⟩) hsz
      | tup xs =>
        obtain ⟨a, ws, rfl, _⟩ := i.tup fh
        cases rx
        exact PySem.repr_of_reads' rd h2 (PyData.noDict_hsm (noDict_py 60 _ h1)) c.grd (by omega) (fun _ _ e => e) (fun h' u tk k => ⟨.str _, H, I.kept (t' := tk) k, ⟨u, rfl⟩, q⟩) hsz
      | _ => cases h1
    · exact h.elim
def sortsB (ds : List D) : Bool := ds.all (okD 60) && (ds.all fun x => ds.all fun y => alike (py x) (py y)) &&
  ((ds.all fun d => match d with
    | .tup (_ :: _) => true
    | _ => false) || ds.all fun d => match d with
    | .tup _ => false
    | .non => false
    | _ => true)
def sortD (ds : List D) : List D := ds.mergeSort (dataLe false py)
def sortedF : List D → Option Rf
  | [.lst ds] => if sortsB ds then some (.own (.lst (sortD ds))) else none
  | _ => none
theorem sortsB_able {ds : List D} (h : sortsB ds = true) : AllAlike (ds.map py) ∧ Sortable (ds.map py) ∧ ∀ d ∈ ds, okD 60 d = true := by
  simp only [sortsB, Bool.and_eq_true, List.all_eq_true, Bool.or_eq_true] at h
  obtain ⟨⟨h1, h2⟩, h3⟩ := h
  refine ⟨fun a ha b hb => ?_, ?_, h1⟩
  · obtain ⟨x, hx, rfl⟩ := List.mem_map.mp ha
    obtain ⟨y, hy, rfl⟩ := List.mem_map.mp hb
    exact h2 x hx y hy
  · rcases h3 with h3 | h3
    · refine .inl fun a ha => ?_
      obtain ⟨x, hx, rfl⟩ := List.mem_map.mp ha
      have := h3 x hx
      split at this
      · rename_i y ys; exact ⟨py y, pyAll ys, by simp only [py, pyAll]⟩
      · cases this
    · refine .inr fun a ha => ?_
      obtain ⟨x, hx, rfl⟩ := List.mem_map.mp ha
      have := h3 x hx
      have ho := h1 x hx
      cases x <;> first | (simp at this; done) | (simp [okD] at ho; done) | (simp [py])
theorem each_pairs {h : Heap} : ∀ {vs : List V} {ds : List D} {us : List Value}, IsAll K cm F vs ds → Vals vs us → EachIs (fun u (p : V × D) => RelV p.1 u) us (vs.zip ds)
  | _, _, _, .nil, .nil => .nil
  | _, _, _, .cons i is, .cons r rs => .cons r (each_pairs (h := h) is rs)
theorem zip_fst : ∀ {vs : List V} {ds : List D}, vs.length = ds.length → (vs.zip ds).map (·.1) = vs ∧ (vs.zip ds).map (·.2) = ds
  | [], [], _ => ⟨rfl, rfl⟩
  | v :: vs, d :: ds, h => by
    obtain ⟨h1, h2⟩ := zip_fst (vs := vs) (ds := ds) (by simpa using h)
    simp [h1, h2]
theorem isAll_zip : ∀ {vs : List V} {ds : List D}, IsAll K cm F vs ds → ∀ p ∈ vs.zip ds, DL.Is K cm F p.1 p.2
  | _, _, .cons i is, p, hp => by
    rcases List.mem_cons.mp hp with rfl | hp
    · exact i
    · exact isAll_zip is p hp
theorem isAll_of_zip : ∀ {ps : List (V × D)}, (∀ p ∈ ps, DL.Is K cm F p.1 p.2) → IsAll K cm F (ps.map (·.1)) (ps.map (·.2))
  | [], _ => .nil
  | p :: ps, h => .cons (h p List.mem_cons_self) (isAll_of_zip fun q hq => h q (List.mem_cons_of_mem _ hq))
theorem vals_of_each : ∀ {us : List Value} {ps : List (V × D)}, EachIs (fun u (p : V × D) => RelV p.1 u) us ps → Vals (ps.map (·.1)) us
  | _, _, .nil => .nil
  | _, _, .cons r rs => .cons r (vals_of_each rs)
theorem each_reads {X : Cx} {pins : List (Addr × Obj)} {σ : L2.St} {H : Hp} {s : Shared} (I : Inv X pins σ H s) (hh : Same F H) : ∀ {vs : List V} {ds : List D} {us : List Value}, IsAll X.K cm F vs ds → (∀ d ∈ ds, okD 60 d = true) → Vals vs us → EachIs (fun u (p : V × D) => ∃ as, Reads s.heap u (py p.2) as) us (vs.zip ds)
  | _, _, _, .nil, _, .nil => .nil
  | _, _, _, .cons i is, h, .cons r rs => .cons (Dp.reads I _ _ _ (is_dp hh 60 _ (h _ List.mem_cons_self) (.inl i)) r) (each_reads I hh is (fun d hd => h d (List.mem_cons_of_mem _ hd)) rs)
theorem call_sortedF {k : Nat} (c : Cok T k) : CallD T (.builtin "sorted") sortedF := by
  intro pins s σ H vs us Q I r ⟨F, ds, fh, at_, h⟩
  match ds, at_, h with
  | [.lst ds], at_, h =>
    obtain ⟨v, rfl, i⟩ := at_.one
    simp only [sortedF] at h
    split at h
    · rename_i ho
      obtain ⟨k1, k2, k3⟩ := sortsB_able ho
      obtain ⟨a, ws, rfl, g1, g2⟩ := i.lst fh
      rw [Vals.ref1 r]
      obtain ⟨hz, its, n, dd, sl, rv, hl, e⟩ := rd_lst I g1
      have hw := g2.length
      obtain ⟨z1, z2⟩ := zip_fst hw
      have em : (ws.zip ds).map (fun p => py p.2) = ds.map py := by rw [← z2, List.map_map, z2]; rfl
      have hu := c.room.units
      refine sorted_data (bs := ws.zip ds) (enc := fun p => py p.2) (R := fun u (p : V × D) => RelV p.1 u) ⟨_, e, rfl, n, rfl⟩ (each_pairs (h := s.heap) g2 rv) (each_reads I fh g2 k3 rv) (by rw [em]; exact k1) (by rw [em]; exact k2)
        (by rw [List.length_zip, hw, Nat.min_self, ← hw]; exact hz) (fun p hp => ?_) fun out ol oe => ?_
      · have hd := (py_plain 60 p.2 (k3 p.2 (List.of_mem_zip hp).2)).2
        omega
      · obtain ⟨ep, he'⟩ := PyProof.Rows.sortedAll_at s.heap its out.toArray
        have perm := List.mergeSort_perm (ws.zip ds) (dataLe false fun p => py p.2)
        have ia : IsAll T.X.K T.cm F (((ws.zip ds).mergeSort (dataLe false fun p => py p.2)).map (·.1)) (sortD ds) := by
          have e2 : ((ws.zip ds).mergeSort (dataLe false fun p => py p.2)).map (·.2) = sortD ds := by
            unfold sortD
            refine Eq.trans ?_ (congrArg (fun l => l.mergeSort (dataLe false py)) z2)
            exact List.map_mergeSort (r := dataLe false fun (p : V × D) => py p.2) (s := dataLe false py) (f := fun (p : V × D) => p.2) (l := ws.zip ds) fun a _ b _ => rfl
          rw [← e2]
          exact isAll_of_zip fun p hp => isAll_zip g2 p ((perm.mem_iff).mp hp)
        have vo := vals_of_each oe
        have hlen : (((ws.zip ds).mergeSort (dataLe false fun p => py p.2)).map (·.1)).length ≤ sizeLine := by
          rw [List.length_map, perm.length_eq, List.length_zip, hw, Nat.min_self, ← hw]; exact hz
        exact ⟨.ref _, _, I.laid (t' := s.toks) (fun _ _ => PyProof.Rows.sortedAll_old) (Nat.le_succ _) (show ObjOk _ _ _ _ _ (.lst _) from ⟨hlen, out, ep, vo, by simpa using he'⟩), rfl, h.newLst fh ia _ (I.hok.fresh (Nat.le_succ _))⟩
    · exact h.elim
def strsD : List D → Option (List Str)
  | [] => some []
  | .str i :: ds => (strsD ds).map (i :: ·)
  | _ => none
theorem strsD_map : ∀ (ns : List Str), strsD (ns.map .str) = some ns
  | [] => rfl
  | i :: ns => by simp [strsD, strsD_map ns]
theorem strsD_vs : ∀ {ds : List D} {ns : List Str} {vs : List V}, strsD ds = some ns → IsAll K cm F vs ds → vs = ns.map .str
  | [], ns, vs, e, i => by cases e; cases i; rfl
  | d :: ds, ns, vs, e, i => by
    cases i with
    | cons i is =>
      cases d <;> first | (cases e; done) | skip
      rename_i j
      simp only [strsD, Option.map_eq_some_iff] at e
      obtain ⟨ms, e1, rfl⟩ := e
      rw [IsT.str (H := F) (.inl i), strsD_vs e1 is]
      rfl
def joinD (a : Str) (ds : List D) : Option Rf := (strsD ds).bind fun ys => if (ys.map (·.length)).sum + ys.length * a.length ≤ 16777216 then some (.dat (.str (Txt.join a ys))) else none
def joinF : D → D → Option Rf
  | .str a, .lst ds => joinD a ds
  | .str a, .tup ds => joinD a ds
  | _, _ => none
end
section
variable {T : Tx} {o e a b : Expr} {co ca cb : M Rf} {pos apos cpos : Pos}
def isStr : Rf → Bool
  | .dat (.str _) => true
  | _ => false
def sStr1 (f : D → D → Option Rf) (a b : M Rf) : M Rf := bnd a fun x => if isStr x then bnd (opnd b) fun y => app2 f x y else fail
theorem str1_weak {f : D → D → Option Rf} {r : V → List V → Hp → VK → Prop} (hr : ∀ x y H Q, rD2 T f x y H Q → r x [y] H Q) {B F0 : Hp} {σ : L2.St} {H : Hp} {Q : VK} (h : tS T B F0 (sStr1 f ca cb) σ H Q) : tM1 r (tS T B F0 ca) (tS T B F0 (opnd cb)) σ H Q := by
  obtain ⟨F, Γ, q⟩ := h
  refine ⟨F, Γ, q.bnd.mono fun x F1 Γ1 H1 q1 S1 r1 v hv => ?_⟩
  cases hx : isStr x with
  | false => rw [hx] at r1; exact r1.2.elim
  | true =>
    rw [hx] at r1
    refine ⟨?_, F1, Γ1, r1.bnd.mono fun y F2 Γ2 H2 q2 S2 r2 u hu => hr _ _ _ _ (r2.app2 hv q2 hu)⟩
    unfold isStr at hx
    split at hx
    · exact ⟨_, IsT.str (H := H1) (.inl hv)⟩
    · cases hx
theorem re_join (ha : RE T o co) (hb : RE T e cb) (hs : starEach [e] T.X.env = [(false, eval e T.X.env)] := by rfl) (hbase : attributeBase o "join" T.X.env (eval o T.X.env) = eval o T.X.env := by rfl) (hline : (apos.endLine == pos.line) = true := by rfl) :
    RE T (.Call (.Attribute o "join" apos) [e] [] pos) (sStr1 joinF co cb) := fun B F0 =>
  (pe_m1 PySem.F.slot_str_join PySem.F.type_str_join mt_join (ha B F0) (re_opnd hb B F0) hs hbase hline).weak fun σ H Q h => str1_weak (fun x y H Q ⟨F, d1, d2, fh, i1, i2, h⟩ => by
    have go : ∀ (z : Str) (ds : List D) (p : Addr) (ws : List V), IsAll T.X.K T.cm F ws ds ∨ IsAll T.X.K T.cm F ws ds → (SqL T.X.K H p ws ∨ SqT T.X.K H p ws) → x = .str z → y = .ref p → Res T F H Q (joinD z ds) →
        ∃ a p, ∃ ys : List Str, x = .str a ∧ [y] = [.ref p] ∧ (SqL T.X.K H p (ys.map V.str) ∨ SqT T.X.K H p (ys.map V.str)) ∧ (ys.map (·.length)).sum + ys.length * a.length ≤ 16777216 ∧ Q (.str (Txt.join a ys)) H := fun z ds p ws i hp hx hy h => by
      have i : IsAll T.X.K T.cm F ws ds := i.elim id id
      unfold joinD at h
      rcases e : strsD ds with _ | ys
      · rw [e] at h; exact h.elim
      · rw [e] at h
        simp only [Option.bind_some] at h
        split at h
        · rename_i hz
          have ew := strsD_vs e i
          subst ew
          exact ⟨z, p, ys, hx, by rw [hy], hp, hz, h.val fh (.str _)⟩
        · exact h.elim
    match d1, d2, i1, i2, h with
    | .str z, .lst ds, i1, i2, h =>
      obtain ⟨p, ws, rfl, g1, g2⟩ := i2.rdL fh
      exact go z ds p ws (.inl g2) (.inl g1) i1.str rfl h
    | .str z, .tup ds, i1, i2, h =>
      obtain ⟨p, ws, rfl, g1, g2⟩ := i2.tup fh
      exact go z ds p ws (.inl g2) (.inr g1) i1.str rfl h) h
def ixD : D → D → Option Rf
  | .lst ds, .int i => (atI ds i).map .dat
  | .tup ds, .int i => (atI ds i).map .dat
  | .str x, .int i => if x.length ≤ big then (atI x.cps.toList i).map fun c => .dat (.str ⟨#[c]⟩) else none
  | _, _ => none
theorem atI_get {K : PySem.W.Frag} {cm : CM} {F : Hp} {vs : List V} {ds : List D} {i : Int} {d : D} (h : IsAll K cm F vs ds) (e : atI ds i = some d) : ∃ v, atI vs i = some v ∧ DL.Is K cm F v d := by
  unfold atI at e ⊢
  rw [h.length]
  rcases q : ixN ds.length i with _ | j
  · rw [q] at e; cases e
  · rw [q] at e
    exact h.get e
theorem _root_.L2.IxR.imp {X : Cx} {r r' : R2} (h : IxR X r) (i : ∀ x y H Q, r' x y H Q → r x y H Q) : IxR X r' := fun value slice pins s σ H x y v u Q I rx ry q hs => h value slice pins s σ H x y v u Q I rx ry (i _ _ _ _ q) hs
theorem ix_D : IxR T.X (rD2 T ixD) := ix_seq.imp fun x y H Q ⟨F, d1, d2, fh, i1, i2, h⟩ => by
  match d1, d2, i1, i2, h with
  | .lst ds, .int i, i1, i2, h =>
    obtain ⟨a, ws, rfl, g1, g2⟩ := i1.rdL fh
    rcases e : atI ds i with _ | d
    · simp only [ixD, e, Option.map_none] at h; exact h.elim
    · simp only [ixD, e, Option.map_some] at h
      obtain ⟨v, k1, k2⟩ := atI_get g2 e
      exact .inl ⟨a, ws, i, v, rfl, i2.int, g1, k1, h.val fh k2⟩
  | .tup ds, .int i, i1, i2, h =>
    obtain ⟨a, ws, rfl, g1, g2⟩ := i1.tup fh
    rcases e : atI ds i with _ | d
    · simp only [ixD, e, Option.map_none] at h; exact h.elim
    · simp only [ixD, e, Option.map_some] at h
      obtain ⟨v, k1, k2⟩ := atI_get g2 e
      exact .inr (.inl ⟨a, ws, i, v, rfl, i2.int, g1, k1, h.val fh k2⟩)
  | .str z, .int i, i1, i2, h =>
    simp only [ixD] at h
    split at h
    · rename_i hz
      rcases e : atI z.cps.toList i with _ | d
      · simp only [e, Option.map_none] at h; exact h.elim
      · simp only [e, Option.map_some] at h
        exact .inr (.inr ⟨z, i, d, i1.str, i2.int, le_big hz, e, h.val fh (.str _)⟩)
    · exact h.elim
theorem re_ix (ha : RE T a ca) (hb : RE T b cb) (hs : PlainIx b := by exact fun _ _ => rfl) : RE T (.Subscript a b pos) (sBin ixD ca cb) := fun B F0 =>
  (pe_ix ix_D (re_opnd ha B F0) (re_opnd hb B F0) hs).weak fun _ _ _ h => op_weak h
def tOI (T : Tx) (B F0 : Hp) (c : M (Option Int)) : TO := fun σ H Q => ∃ F Γ, Run T B F0 c F Γ σ H fun o F' Γ' H' => Q o H'
def RO (T : Tx) (e : Option Expr) (c : M (Option Int)) : Prop := ∀ B F0, PO T.X e (tOI T B F0 c)
theorem _root_.L2.PO.weak {X : Cx} {e : Option Expr} {t t' : TO} (h : PO X e t) (w : ∀ σ H Q, t' σ H Q → t σ H Q) : PO X e t' := ⟨fun pins s σ H Q I q => h.run pins s σ H Q I (w σ H Q q)⟩
def sPart (c : M Rf) : M (Option Int) := bnd (opnd c) fun r => match r with
  | .dat (.int i) => ret (some i)
  | _ => fail
theorem roN : RO T none (ret none) := fun B F0 => po_none.weak fun σ H Q ⟨F, Γ, r⟩ => r.ret.2
theorem roS (h : RE T e ca) : RO T (some e) (sPart ca) := fun B F0 => (po_some (re_opnd h B F0)).weak fun σ H Q ⟨F, Γ, r⟩ => ⟨F, Γ, r.bnd.mono fun x F1 Γ1 H1 q1 S1 r1 v hv => by
  split at r1
  · exact ⟨_, IsT.int (H := H1) (.inl hv), r1.ret.2⟩
  · exact r1.2.elim⟩
def cutD (xs : List D) (lo hi : Option Int) : List D := (xs.drop (HT.sIx xs.length 0 lo)).take (HT.sIx xs.length xs.length hi - HT.sIx xs.length 0 lo)
theorem isAll_cut {K : PySem.W.Frag} {cm : CM} {F : Hp} {vs : List V} {ds : List D} {lo hi : Option Int} (h : IsAll K cm F vs ds) : IsAll K cm F (cutV vs lo hi) (cutD ds lo hi) := by
  unfold cutV cutD
  rw [h.length]
  exact (h.drop _).take _
def sliF : D → Option Int → Option Int → Option Rf
  | .lst ds, lo, hi => some (.own (.lst (cutD ds lo hi)))
  | .tup ds, lo, hi => some (.dat (.tup (cutD ds lo hi)))
  | .str x, lo, hi => if x.length ≤ big then some (.dat (.str (cutS x lo hi))) else none
  | _, _, _ => none
def sSli (a : M Rf) (lo hi : M (Option Int)) : M Rf := bnd (opnd a) fun x => bnd lo fun l => bnd hi fun u => fun Γ => match rsv Γ x with
  | some d => lift (sliF d l u) Γ
  | none => none
def rSli (T : Tx) : V → Option Int → Option Int → Hp → VK → Prop := fun x lo hi H Q => ∃ F d, Same F H ∧ IsT T.X.K T.cm F H x d ∧ Res T F H Q (sliF d lo hi)
theorem _root_.L2.SlR.imp {X : Cx} {r r' : V → Option Int → Option Int → Hp → VK → Prop} (h : SlR X r) (i : ∀ x l u H Q, r' x l u H Q → r x l u H Q) : SlR X r' := fun pins s σ H x v vl vu lo hi sl Q I rx hs pl pu q => h pins s σ H x v vl vu lo hi sl Q I rx hs pl pu (i _ _ _ _ _ q)
theorem cutD_whole {ds : List D} {lo hi : Option Int} (h : HT.sIx ds.length 0 lo = 0 ∧ HT.sIx ds.length ds.length hi = ds.length) : cutD ds lo hi = ds := by
  unfold cutD
  rw [h.1, h.2]
  simp
theorem sl_D : SlR T.X (rSli T) := ((sl_list.or sl_tupA).or sl_str).imp fun x lo hi H Q ⟨F, d, fh, i, h⟩ => by
  match d, i, h with
  | .lst ds, i, h =>
    obtain ⟨a, ws, rfl, g1, g2⟩ := i.rdL fh
    exact .inl (.inl ⟨a, ws, rfl, g1, h.newLst fh (isAll_cut g2)⟩)
  | .tup ds, i, h =>
    obtain ⟨a, ws, rfl, g1, g2⟩ := i.tup fh
    refine .inl (.inr ⟨a, ws, rfl, g1, fun hw => ?_, fun _ => h.newTup fh (isAll_cut g2)⟩)
    rw [g2.length] at hw
    simp only [sliF, cutD_whole hw] at h
    rcases i with i | ⟨b, ho, _, _, i⟩
    · exact h _ _ _ (.refl fh) i
    · cases i
  | .str z, i, h =>
    simp only [sliF] at h
    split at h
    · rename_i hz
      exact .inr ⟨z, i.str, le_big hz, h.val fh (.str _)⟩
    · exact h.elim
theorem re_sli {lo hi : Option Expr} {cl ch : M (Option Int)} {p2 : Pos} (ha : RE T a ca) (hl : RO T lo cl) (hh : RO T hi ch) : RE T (.Subscript a (.Slice lo hi none p2) pos) (sSli ca cl ch) := fun B F0 =>
  (pe_slice sl_D (re_opnd ha B F0) (hl B F0) (hh B F0)).weak fun σ H Q ⟨F, Γ, r⟩ => ⟨F, Γ, r.bnd.mono fun x F1 Γ1 H1 q1 S1 r1 v hv => ⟨F1, Γ1, r1.bnd.mono fun l F2 Γ2 H2 q2 S2 r2 => ⟨F2, Γ2, r2.bnd.mono fun u F3 Γ3 H3 q3 S3 r3 => by
    obtain ⟨S, r3⟩ := r3
    rcases e1 : rsv Γ3 x with _ | d
    · simp only [e1] at r3
    · exact ⟨F3, d, S.fh, hv.rsv (q2.trans q3) S e1, Run.lift (Γ := Γ3) ⟨S, by simpa only [e1] using r3⟩⟩⟩⟩⟩
def ownB (p : D → Bool) (r : Rf) : M Unit := fun Γ => match r with
  | .slot i => match Γ[i]? with
    | some (.own d) => if p d then some (.ok (), Γ) else none
    | _ => none
  | _ => none
def isLst : D → Bool
  | .lst _ => true
  | _ => false
def sMut (p : D → Bool) (φ : Fm) (a : M Rf) (cs : M (List D)) : M Rf := bnd a fun r => bnd (ownB p r) fun _ => bnd cs fun ds => lendA φ r ds
theorem Run.ownB {p : D → Bool} {r0 : Rf} {B F0 F : Hp} {Γ : List Sl} {σ : L2.St} {H : Hp} {P : Unit → Hp → List Sl → Hp → Prop} (r : Run T B F0 (DL.ownB p r0) F Γ σ H P) : ∃ i d, r0 = .slot i ∧ Γ[i]? = some (.own d) ∧ p d = true ∧ T.Sat B F0 F Γ σ H ∧ P () F Γ H := by
  obtain ⟨S, r⟩ := r
  unfold DL.ownB at r
  cases r0 with
  | dat d => exact r.elim
  | own d => exact r.elim
  | slot i =>
    simp only at r
    rcases q : Γ[i]? with _ | sl
    · simp only [q] at r
    · cases sl with
      | un => simp only [q] at r
      | dat d => simp only [q] at r
      | own d =>
        simp only [q] at r
        by_cases hp : p d = true
        · rw [if_pos hp] at r
          exact ⟨i, d, rfl, q, hp, S, r F H (.refl _) S⟩
        · rw [if_neg hp] at r; exact r.elim
def MutD (T : Tx) (r : V → List V → Hp → VK → Prop) (φ : Fm) : Prop := ∀ (F H : Hp) (a : Addr) (ho : HO) (d0 : D) (vs : List V) (ds : List D) (r0 : Ans) (d1 : D) (Q : VK) (E : XK), Same F H → F a = none → H a = some ho → OwnIs T.X.K T.cm F ho d0 → IsAll T.X.K T.cm F vs ds → φ d0 ds = some (r0, d1) → ResM T.X.K T.cm a F H Q E d1 r0 → r (.ref a) vs H Q
theorem step_upd {cm : CM} {F H : Hp} {a : Addr} {o ho : HO} (fh : Same F H) (fa : F a = none) (ha : H a = some ho) (n : ntb ho = true) (nt : ntb o = true := by rfl) : StepM cm a F H F (upd H a o) :=
  ⟨fun b o hb e => .inl (by rw [upd_ne hb]; exact e), .refl _, fun b o e => by rw [upd_ne (ne_of_none e fa)]; exact fh _ _ e, fun _ _ e => .inl e,
    fun t => t.step (.refl _) (fun b ps e => by
      have hb : b ≠ a := fun z => by subst z; rw [ha] at e; cases e; cases n
      rw [upd_ne hb]; exact e) (fun b ps e => upd_tbl nt e) fun _ _ e => .inl e⟩
variable {es : List Expr} {cs : M (List D)} {name : Str} {id : String} {r : V → List V → Hp → VK → Prop} {φ : Fm}
theorem re_mut (hm : MtM T.X id r) (hr : MutD T r φ) (slot : Slot "list" name id) (hty : typeOf (.builtin id) = pure (.type "method_descriptor")) (ho : RE T o co) (ha : RA T (e :: es) cs)
    (hbase : attributeBase o name T.X.env (eval o T.X.env) = eval o T.X.env := by rfl)
    (hfew : ((backTo cpos (starEach (e :: es) T.X.env)).all (fun x => !x.1) && (backToKw cpos (keywordEach [] T.X.env)).all (fun x => x.1.isSome)
      && decide ((e :: es).length + ([] : List Keyword).length + (if ([] : List Keyword).isEmpty then 0 else 1) < 30)) = true := by rfl)
    (hline : (apos.endLine == cpos.line) = true := by rfl) (hs : starEach (e :: es) T.X.env = (false, eval e T.X.env) :: starEach es T.X.env := by rfl) (hplain : (backTo cpos (starEach es T.X.env)).any (·.1) = false := by rfl) :
    RE T (.Call (.Attribute o name apos) (e :: es) [] cpos) (sMut isLst φ co cs) := fun B F0 =>
  (pe_bm PySem.F.plainAttrs_list slot hty hm (ho B F0) (ha B F0) hbase hfew hline hs hplain).weak fun σ H Q ⟨F, Γ, q⟩ => ⟨F, Γ, q.bnd.mono fun x F1 Γ1 H1 q1 S1 r1 v hv => by
    obtain ⟨i, d, rfl, hi, hp, _, r2⟩ := r1.bnd.ownB
    obtain ⟨a, ho, g1, g2, g3, g4, g5⟩ := S1.ow i d hi
    have hv1 := hv.1
    rw [g1] at hv1; injection hv1 with hv1; injection hv1 with hv1; subst hv1
    have ty : tyV T.X.K "list" (.ref a) H1 := by
      cases d <;> first | (cases hp; done) | skip
      cases g5 with
      | lst hs => exact .inl ⟨rfl, _, .of g4⟩
    refine ⟨ty, F1, Γ1, r2.bnd.mono fun ds F2 Γ2 H2 q2 S2 r3 vs hvs => ?_⟩
    obtain ⟨a', ho', d0, r0, d1, e1, h1, h2, h3, h4, h5⟩ := Run.lendX r3 g1
    injection e1 with e1; subst e1
    exact hr F2 H2 a ho' d0 vs ds r0 d1 Q _ S2.fh h1 h2 h3 hvs h4 h5⟩
def appendM : Fm
  | .lst xs, [d] => if xs.length < big then some (.ok (.dat .non), .lst (xs ++ [d])) else none
  | _, _ => none
theorem mut_append : MutD T rAppend appendM := fun F H a ho d0 vs ds r0 d1 Q E fh fa ha hod i hφ hres => by
  match d0, ds, i, hφ with
  | .lst xs, [d], i, hφ =>
    simp only [appendM] at hφ
    split at hφ
    · rename_i hz
      simp only [Option.some.injEq, Prod.mk.injEq] at hφ
      obtain ⟨rfl, rfl⟩ := hφ
      cases hod with
      | lst hs =>
        cases i with
        | cons ix is =>
          cases is
          refine ⟨a, _, _, rfl, rfl, ha, by rw [hs.length]; exact lt_big hz, ?_⟩
          exact hres .non _ F _ (step_upd fh fa ha rfl) upd_same (.lst (hs.append (.cons ix .nil))) .non
    · cases hφ
theorem re_append (ho : RE T o co) (ha : RA T [e] cs)
    (hbase : attributeBase o "append" T.X.env (eval o T.X.env) = eval o T.X.env := by rfl)
    (hfew : ((backTo cpos (starEach [e] T.X.env)).all (fun x => !x.1) && (backToKw cpos (keywordEach [] T.X.env)).all (fun x => x.1.isSome)
      && decide ([e].length + ([] : List Keyword).length + (if ([] : List Keyword).isEmpty then 0 else 1) < 30)) = true := by rfl)
    (hline : (apos.endLine == cpos.line) = true := by rfl) (hs : starEach [e] T.X.env = (false, eval e T.X.env) :: starEach [] T.X.env := by rfl) (hplain : (backTo cpos (starEach [] T.X.env)).any (·.1) = false := by rfl) :
    RE T (.Call (.Attribute o "append" apos) [e] [] cpos) (sMut isLst appendM co cs) := re_mut mt_append mut_append PySem.F.slot_list_append PySem.F.type_list_append ho ha hbase hfew hline hs hplain
def popM : Fm
  | .lst xs, [] => match xs[xs.length - 1]? with
    | some d => some (.ok (.dat d), .lst xs.dropLast)
    | none => none
  | .lst xs, [.int i] => if sm62 i then match seqIndex? i xs.length with
      | some k => match xs[k]? with
        | some d => some (.ok (.dat d), .lst (xs.eraseIdx k))
        | none => none
      | none => none
    else none
  | _, _ => none
theorem isAll_erase {K : PySem.W.Frag} {cm : CM} {F : Hp} : ∀ {vs : List V} {ds : List D} (k : Nat), IsAll K cm F vs ds → IsAll K cm F (vs.eraseIdx k) (ds.eraseIdx k)
  | _, [], k, h => by cases h; exact .nil
  | _, d :: ds, 0, h => by cases h with | cons i is => exact is
  | _, d :: ds, k + 1, h => by cases h with | cons i is => exact .cons i (isAll_erase k is)
theorem mut_popAt : MutD T rPopAt (fun d ds => match ds with
    | [.int i] => popM d [.int i]
    | _ => none) := fun F H a ho d0 vs ds r0 d1 Q E fh fa ha hod i hφ hres => by
  match ds, i, hφ with
  | [.int j], i, hφ =>
    cases i with
    | cons ix is =>
      cases is
      match d0, hφ with
      | .lst xs, hφ =>
        simp only [popM] at hφ
        split at hφ
        · rename_i hj
          simp only [sm62, Bool.and_eq_true, decide_eq_true_eq] at hj
          split at hφ
          · rename_i k hk
            split at hφ
            · rename_i d hd
              simp only [Option.some.injEq, Prod.mk.injEq] at hφ
              obtain ⟨rfl, rfl⟩ := hφ
              cases hod with
              | lst hs =>
                obtain ⟨v, h1, h2⟩ := hs.get hd
                exact ⟨a, _, j, k, v, rfl, by rw [IsT.int (H := H) (.inl ix)], ha, by omega, by omega, by rw [hs.length]; exact hk, h1, hres v _ F _ (step_upd fh fa ha rfl) upd_same (.lst (isAll_erase k hs)) h2⟩
            · cases hφ
          · cases hφ
        · cases hφ
end
end DL
namespace DL
open PySem L2 PyProof.Rows
abbrev Tx.blk (T : Tx) (s : Shared) (H : Hp) (scope : Scope) (cenv : Env) (fp : List Addr) : Tx := { X := T.X.blk s H scope cenv fp, cm := T.cm, W := fun _ _ _ _ => False, io := T.io }
theorem Cok.blk {T : Tx} {k : Nat} (c : Cok T k) (s : Shared) (H : Hp) (scope : Scope) (cenv : Env) (fp : List Addr) : Cok (T.blk s H scope cenv fp) k :=
  ⟨c.room, c.grd, c.calm, c.nd, takes0, PassesOwn.never, c.wc⟩
def wipeG (Γ : List Sl) : List Nat → List Sl
  | [] => Γ
  | v :: vs => (wipeG Γ vs).set v .un
def keepD : Option Sl → Sl
  | some (.dat d) => .dat d
  | _ => .un
def unwipe (Γ1 Γ2 : List Sl) : List Nat → List Sl
  | [] => Γ2
  | v :: vs => (unwipe Γ1 Γ2 vs).set v (keepD Γ1[v]?)
theorem unwipe_get {Γ1 Γ2 : List Sl} {j : Nat} {sl : Sl} : ∀ {vs : List Nat}, (unwipe Γ1 Γ2 vs)[j]? = some sl → (j ∈ vs ∧ sl = keepD Γ1[j]?) ∨ (j ∉ vs ∧ Γ2[j]? = some sl)
  | [], h => .inr ⟨by simp, h⟩
  | v :: vs, h => by
    rcases get_set h with ⟨rfl, _, q⟩ | ⟨hj, q⟩
    · exact .inl ⟨List.mem_cons_self, q⟩
    · rcases unwipe_get q with ⟨h1, h2⟩ | ⟨h1, h2⟩
      · exact .inl ⟨List.mem_cons_of_mem _ h1, h2⟩
      · exact .inr ⟨by simp only [List.mem_cons, not_or]; exact ⟨hj, h1⟩, h2⟩
theorem unwipe_len {Γ1 Γ2 : List Sl} : ∀ {vs : List Nat}, (unwipe Γ1 Γ2 vs).length = Γ2.length
  | [] => rfl
  | v :: vs => by unfold unwipe; rw [List.length_set]; exact unwipe_len
theorem wipe_ne {σ : L2.St} {j : Nat} : ∀ {vs : List Nat}, j ∉ vs → (wipe σ vs)[j]? = σ[j]?
  | [], _ => rfl
  | v :: vs, h => by
    simp only [List.mem_cons, not_or] at h
    unfold wipe
    rw [List.getElem?_set_ne (Ne.symm h.1)]
    exact wipe_ne h.2
theorem wipe_mem {σ : L2.St} {j : Nat} : ∀ {vs : List Nat}, j ∈ vs → (wipe σ vs)[j]? = none ∨ (wipe σ vs)[j]? = some none
  | v :: vs, h => by
    unfold wipe
    by_cases hj : j = v
    · subst hj
      by_cases hl : j < (wipe σ vs).length
      · exact .inr (List.getElem?_set_self hl)
      · exact .inl (List.getElem?_eq_none (by simpa using hl))
    · rw [List.getElem?_set_ne (Ne.symm hj)]
      rcases List.mem_cons.mp h with h | h
      · exact absurd h hj
      · exact wipe_mem h
theorem wipe_wipe {σ : L2.St} {vs : List Nat} : wipe (wipe σ vs) vs = wipe σ vs := by
  apply List.ext_getElem?
  intro j
  by_cases hj : j ∈ vs
  · have l1 : (wipe (wipe σ vs) vs).length = (wipe σ vs).length := wipe_length _ _
    rcases wipe_mem (σ := wipe σ vs) hj with h | h <;> rcases wipe_mem (σ := σ) hj with h' | h'
    · rw [h, h']
    · have a1 := List.getElem?_eq_none_iff.mp h
      have a2 := (List.getElem?_eq_some_iff.mp h').1
      omega
    · have a1 := List.getElem?_eq_none_iff.mp h'
      have a2 := (List.getElem?_eq_some_iff.mp h).1
      omega
    · rw [h, h']
  · rw [wipe_ne hj]
section
variable {K : PySem.W.Frag} {cm : CM} {io : Option Addr} {B F0 F F1 F2 : Hp} {Γ Γ1 Γ2 : List Sl} {σ : L2.St} {H H1 H2 : Hp} {vs : List Nat}
theorem Sat.wipeW (S : Sat K cm io B F0 F Γ σ H) : ∀ {vs : List Nat}, (∀ v ∈ vs, io = none ∨ v ≠ 0) → Sat K cm io B F0 F (wipeG Γ vs) (wipe σ vs) H
  | [], _ => S
  | v :: vs, h => (Sat.wipeW S (vs := vs) fun w hw => h w (List.mem_cons_of_mem _ hw)).wipe1 (h v List.mem_cons_self)
theorem Sat.rewipe {σ2 : L2.St} (S : Sat K cm io B F0 F Γ σ2 H) (hio : ∀ v ∈ vs, io = none ∨ v ≠ 0) (e : wipe σ2 vs = wipe σ vs) : Sat K cm io B F0 F (wipeG Γ vs) (wipe σ vs) H := by
  rw [← e]
  exact S.wipeW hio
theorem Sat.unwipe (S1 : Sat K cm io B F0 F1 Γ1 σ H1) (S2 : Sat K cm io B F0 F2 Γ2 (wipe σ vs) H2) (q : Same F1 F2) : Sat K cm io B F0 F2 (DL.unwipe Γ1 Γ2 vs) σ H2 where
  fh := S2.fh
  bh := S2.bh
  tb := S2.tb
  f0 := S2.f0
  nw := S2.nw
  len := by rw [unwipe_len, S2.len, wipe_length]
  dt := fun i d e => by
    rcases unwipe_get e with ⟨h1, h2⟩ | ⟨h1, h2⟩
    · unfold keepD at h2
      split at h2
      · rename_i d' hd
        cases h2
        obtain ⟨v, g1, g2⟩ := S1.dt i _ hd
        exact ⟨v, g1, g2.mono q _⟩
      · cases h2
    · obtain ⟨v, g1, g2⟩ := S2.dt i d h2
      exact ⟨v, by rw [← wipe_ne h1]; exact g1, g2⟩
  ow := fun i d e => by
    rcases unwipe_get e with ⟨h1, h2⟩ | ⟨h1, h2⟩
    · unfold keepD at h2; split at h2 <;> cases h2
    · obtain ⟨a, ho, g1, g2⟩ := S2.ow i d h2
      exact ⟨a, ho, by rw [← wipe_ne h1]; exact g1, g2⟩
  ap := fun i j d e a h1 h2 h3 h4 => by
    rcases unwipe_get h1 with ⟨_, k2⟩ | ⟨k1, k2⟩
    · unfold keepD at k2; split at k2 <;> cases k2
    · rcases unwipe_get h2 with ⟨_, m2⟩ | ⟨m1, m2⟩
      · unfold keepD at m2; split at m2 <;> cases m2
      · exact S2.ap i j d e a k2 m2 (by rw [wipe_ne k1]; exact h3) (by rw [wipe_ne m1]; exact h4)
  ioA := S1.ioA
theorem Sat.side (S : Sat K cm io B F0 F Γ σ H) {p : Addr} (hF : F p = none) {o : HO} (hH : H p = none ∨ (B p = none ∧ (∀ (i : Nat) (d : D), Γ[i]? = some (.own d) → σ[i]? ≠ some (some (.ref p))) ∧ ∀ ps, H p ≠ some (.tbl ps))) (nt : ntb o = true := by rfl) :
    Sat K cm io (upd B p o) F0 F Γ σ (upd H p o) := by
  have hB : B p = none := by
    rcases hH with h | h
    · exact S.bh.free h
    · exact h.1
  have hn : ∀ (i : Nat) (d : D), Γ[i]? = some (.own d) → σ[i]? ≠ some (some (.ref p)) := by
    rcases hH with h | h
    · intro i d e hs
      obtain ⟨a, ho, g1, _, _, g4, _⟩ := S.ow i d e
      rw [g1] at hs; injection hs with hs; injection hs with hs; injection hs with hs; subst hs
      rw [h] at g4; cases g4
    · exact h.2.1
  have hT : ∀ ps, H p ≠ some (.tbl ps) := by
    rcases hH with h | h
    · intro ps z; rw [h] at z; cases z
    · exact h.2.2
  refine ⟨fun b u e => ?_, fun b u e => ?_, S.tb.step (.refl _) (fun b ps e => by rw [upd_ne (fun z => hT ps (by rw [← z]; exact e))]; exact e) (fun b ps e => upd_tbl nt e) (fun _ _ e => .inl e), S.f0, fun q u e => ?_, S.len, S.dt, fun i d e => ?_, S.ap, S.ioA⟩
  · rw [upd_ne (ne_of_none e hF)]; exact S.fh b u e
  · by_cases hb : b = p
    · subst hb; rw [upd_same] at e ⊢; exact .inl e
    · rw [upd_ne hb] at e ⊢; exact S.bh b u e
  · rcases S.nw q u e with h | h
    · exact .inl h
    · exact .inr (by rw [upd_ne (ne_of_none e hF)]; exact h)
  · obtain ⟨a, ho, h1, h2, h3, h4, h5⟩ := S.ow i d e
    have ne : a ≠ p := fun z => hn i d e (by rw [h1, z])
    exact ⟨a, ho, h1, h2, by rw [upd_ne ne]; exact h3, by rw [upd_ne ne]; exact h4, h5⟩
theorem Sat.reside {D0 : Addr} {o o' : HO} (S : Sat K cm io (upd B D0 o) F0 F Γ σ H) (hF : F D0 = none) (hB : B D0 = none) (no : ntb o = true := by rfl) (nt : ntb o' = true := by rfl) : Sat K cm io (upd B D0 o') F0 F Γ σ (upd H D0 o') := by
  have e : upd (upd B D0 o) D0 o' = upd B D0 o' := by
    funext b
    by_cases hb : b = D0
    · subst hb; rw [upd_same, upd_same]
    · rw [upd_ne hb, upd_ne hb, upd_ne hb]
  have hn : ∀ (i : Nat) (d : D), Γ[i]? = some (.own d) → σ[i]? ≠ some (some (.ref D0)) := fun i d e1 hs => by
    obtain ⟨a, ho, g1, _, g3, _⟩ := S.ow i d e1
    rw [g1] at hs; injection hs with hs; injection hs with hs; injection hs with hs; subst hs
    rw [upd_same] at g3; cases g3
  have S' : Sat K cm io B F0 F Γ σ H := S.weakB (.up hB)
  exact S'.side hF (.inr ⟨hB, hn, fun ps z => by rw [S.bh.at upd_same no] at z; cases z; cases no⟩) nt
end
def tGw (T : Tx) (B F0 : Hp) (vs : List Nat) (g : D → M Unit) : TG := fun v σ H Q => ∃ F Γ d, T.Is F v d ∧ RunS T B F0 (g d) F Γ σ H fun _ F' Γ' σ' H' => wipe σ' vs = wipe σ vs → Q σ' H'
def RGw (T : Tx) (vs : List Nat) (tg : Expr) (g : D → M Unit) : Prop := ∀ B F0, PG T.X tg (tGw T B F0 vs g)
def tGsw (T : Tx) (B F0 : Hp) (vs : List Nat) (gs : List D → M Unit) : TGs := fun ws σ H Q => ∃ F Γ ds, IsAll T.X.K T.cm F ws ds ∧ RunS T B F0 (gs ds) F Γ σ H fun _ F' Γ' σ' H' => wipe σ' vs = wipe σ vs → Q σ' H'
def RGsw (T : Tx) (vs : List Nat) (ts : List Expr) (gs : List D → M Unit) : Prop := ∀ B F0, PGs T.X ts (tGsw T B F0 vs gs)
theorem wipe_set {σ : L2.St} {i : Nat} {v : Option V} {vs : List Nat} (h : i ∈ vs) : wipe (σ.set i v) vs = wipe σ vs := by
  apply List.ext_getElem?
  intro j
  by_cases hj : j ∈ vs
  · have l1 : (wipe (σ.set i v) vs).length = (wipe σ vs).length := by rw [wipe_length, wipe_length, List.length_set]
    rcases wipe_mem (σ := σ.set i v) hj with h | h <;> rcases wipe_mem (σ := σ) hj with h' | h'
    · rw [h, h']
    · have a1 := List.getElem?_eq_none_iff.mp h
      have a2 := (List.getElem?_eq_some_iff.mp h').1
      omega
    · have a1 := List.getElem?_eq_none_iff.mp h'
      have a2 := (List.getElem?_eq_some_iff.mp h).1
      omega
    · rw [h, h']
  · rw [wipe_ne hj, wipe_ne hj, List.getElem?_set_ne (fun e => hj (by rw [← e]; exact h))]
section
variable {T : Tx} {x : Str} {pos : Pos} {vs : List Nat}
theorem rgw_name (i : Nat) (hN : T.X.N.Nodup) (hm : i ∈ vs := by decide) (hi : T.X.N[i]? = some x := by rfl) (hx : Loc T.X.env.scope x := by first | exact Or.inl rfl | exact Or.inr rfl) (hio : NoIo T i := by first | exact Or.inl rfl | exact Or.inr (by decide))
    (hf : T.X.fn x = true ∨ T.X.env.scope.names.lookup x = some .local := by first | exact .inl rfl | exact .inr rfl | assumption) : RGw T vs (.Name x pos) (gSet i) := fun B F0 =>
  (pg_name hN hi hx hf).weak fun v σ H Q ⟨F, Γ, d, ix, r⟩ => (r.gSet hio ix).2 (wipe_set hm)
theorem rgsw_nil : RGsw T vs [] gNone := fun B F0 => pgs_nil.weak fun ws σ H Q ⟨F, Γ, ds, i, r⟩ => by
  cases ds with
  | nil => cases i; exact ⟨rfl, r.ret.2 rfl⟩
  | cons d ds => exact r.2.elim
theorem rgsw_cons {t : Expr} {ts : List Expr} {g : D → M Unit} {gs : List D → M Unit} (h1 : RGw T vs t g) (h2 : RGsw T vs ts gs) (hs : (assignEach (t :: ts) T.X.env).map (·.2) = assign t T.X.env :: (assignEach ts T.X.env).map (·.2) := by rfl) : RGsw T vs (t :: ts) (gMore g gs) := fun B F0 =>
  (pgs_cons (h1 B F0) (h2 B F0) hs).weak fun ws σ H Q ⟨F, Γ, ds, i, r⟩ => by
    cases ds with
    | nil => exact r.2.elim
    | cons d ds =>
      cases i with
      | cons i is => exact ⟨_, _, rfl, F, Γ, d, i, r.bnd.mono fun _ F1 Γ1 σ1 H1 q1 S1 r1 e1 => ⟨F1, Γ1, ds, is.mono q1 _, r1.mono fun _ F2 Γ2 σ2 H2 q2 S2 p e2 => p (e2.trans e1)⟩⟩
theorem rgw_tup {es : List Expr} {k n : Nat} {gs : List D → M Unit} (h : RGsw T vs es gs) (hc : T.X.calm = true) (hn : (assignEach es T.X.env).length = n := by rfl) (hst : (assignEach es T.X.env).findIdx? (·.1) = none := by rfl) : RGw T vs (.Tuple es k pos) (gTupD n gs) := fun B F0 =>
  (pg_tup hc (h B F0) hn hst).weak fun v σ H Q ⟨F, Γ, d, i, r⟩ => by
    cases d with
    | tup ds =>
      obtain ⟨a, ws, rfl, g1, g2⟩ := IsT.tup r.1.fh (.inl i)
      by_cases hl : ds.length = n
      · have r' : RunS T B F0 (gs ds) F Γ σ H fun _ F' Γ' σ' H' => wipe σ' vs = wipe σ vs → Q σ' H' := by simpa only [gTupD, if_pos hl] using r
        exact ⟨a, ws, rfl, g1, by rw [g2.length, hl], F, Γ, ds, g2, r'⟩
      · have r' := r.2
        simp only [gTupD, if_neg hl] at r'
        exact r'.elim
    | _ => exact r.2.elim
end
def RTs (T : Tx) (es : List Expr) (c : M Bool) : Prop := ∀ B F0, PTs T.X es (tT T B F0 c)
theorem _root_.L2.PTs.weak {X : Cx} {e : List Expr} {t t' : TT} (h : PTs X e t) (w : ∀ σ H Q, t' σ H Q → t σ H Q) : PTs X e t' := ⟨fun pins s σ H Q I q => h.run pins s σ H Q I (w σ H Q q)⟩
theorem rts_nil {T : Tx} : RTs T [] (ret true) := fun B F0 => pts_nil.weak fun σ H Q ⟨F, Γ, r⟩ => r.ret.2
theorem rts_one {T : Tx} {e : Expr} {c : M Bool} (h : RT T e c) : RTs T [e] c := fun B F0 => pts_one (h B F0)
def loopL (g : D → M Unit) (ct : M Bool) (ce : M D) (vs : List Nat) : List D → List D → M (List D)
  | [], acc, Γ => some (.ok acc, Γ)
  | d :: ds, acc, Γ => match g d Γ with
    | some (.ok _, Γa) => match ct Γa with
      | some (.ok true, Γb) => match ce Γb with
        | some (.ok y, Γc) => if acc.length < big then loopL g ct ce vs ds (acc ++ [y]) (wipeG Γc vs) else none
        | _ => none
      | some (.ok false, Γb) => loopL g ct ce vs ds acc (wipeG Γb vs)
      | _ => none
    | _ => none
theorem loopL_cons {g : D → M Unit} {ct : M Bool} {ce : M D} {vs : List Nat} {d : D} {ds acc : List D} {Γ : List Sl} {p : Except D (List D) × List Sl} (h : loopL g ct ce vs (d :: ds) acc Γ = some p) :
    ∃ Γa, g d Γ = some (.ok (), Γa) ∧ ((∃ Γb y Γc, ct Γa = some (.ok true, Γb) ∧ ce Γb = some (.ok y, Γc) ∧ acc.length < big ∧ loopL g ct ce vs ds (acc ++ [y]) (wipeG Γc vs) = some p) ∨
      ∃ Γb, ct Γa = some (.ok false, Γb) ∧ loopL g ct ce vs ds acc (wipeG Γb vs) = some p) := by
  simp only [loopL] at h
  split at h
  · rename_i u Γa e1
    refine ⟨Γa, e1, ?_⟩
    split at h
    · rename_i Γb e2
      split at h
      · rename_i y Γc e3
        split at h
        · rename_i hz
          exact .inl ⟨Γb, y, Γc, e2, e3, hz, h⟩
        · cases h
      · cases h
    · rename_i Γb e2
      exact .inr ⟨Γb, e2, h⟩
    · cases h
  · cases h
def lcM (g : D → M Unit) (ct : M Bool) (ce : M D) (vs : List Nat) (ds : List D) : M Rf := fun Γ1 => match loopL g ct ce vs ds [] (wipeG Γ1 vs) with
  | some (.ok acc, Γ2) => some (.ok (.own (.lst acc)), unwipe Γ1 Γ2 vs)
  | _ => none
def sLc (vs : List Nat) (ci : M (List D)) (g : D → M Unit) (ct : M Bool) (ce : M Rf) : M Rf := bnd ci (lcM g ct (cap ce) vs)
section
variable {T : Tx} {elt tg iter : Expr} {ifs : List Expr} {scope : Scope} {own : List (Str × Nat)} {pos spos py : Pos} {ci : M (List D)} {g : D → M Unit} {ct : M Bool} {ce : M Rf}
theorem lc_weak {B F0 : Hp} {σ : L2.St} {H : Hp} {Q : VK} {vs : List Nat} (Tb : Tx) (hK : Tb.X.K = T.X.K) (hcm : Tb.cm = T.cm) (hio' : Tb.io = T.io) (hio : ∀ v ∈ vs, NoIo T v) (h : tS T B F0 (sLc vs ci g ct ce) σ H Q) :
    tLc (tI T B F0 ci) (fun v σ' H' Q' => ∃ B, tGw Tb B F0 vs g v σ' H' Q') (fun σ' H' Q' => ∃ B, tT Tb B F0 ct σ' H' Q') (fun σ' H' Q' => ∃ B, tD Tb B F0 (cap ce) σ' H' Q') vs σ H Q := by
  obtain ⟨F, Γ, r⟩ := h
  refine ⟨F, Γ, r.bnd.mono fun ds F1 Γ1 H1 q1 S1 r1 J hJ Dd hD => ?_⟩
  have r2 := r1.2
  unfold lcM at r2
  rcases e : loopL g ct (cap ce) vs ds [] (wipeG Γ1 vs) with _ | ⟨x | acc, Γ2⟩
  · simp only [e] at r2
  · simp only [e] at r2
  simp only [e] at r2
  have hBD : B Dd = none := S1.bh.free hD
  have hF1D : F1 Dd = none := S1.fh.free hD
  have hF0D : F0 Dd = none := S1.f0.free hF1D
  have toB : ∀ {F' : Hp} {Γ' : List Sl} {σ' : L2.St} {H' : Hp} {B' : Hp}, T.Sat B' F0 F' Γ' σ' H' → Tb.Sat B' F0 F' Γ' σ' H' := fun S => by
    show DL.Sat Tb.X.K Tb.cm Tb.io _ _ _ _ _ _
    rw [hK, hcm, hio']
    exact S
  have ofB : ∀ {F' : Hp} {Γ' : List Sl} {σ' : L2.St} {H' : Hp} {B' : Hp}, Tb.Sat B' F0 F' Γ' σ' H' → T.Sat B' F0 F' Γ' σ' H' := fun S => by
    have S' : DL.Sat Tb.X.K Tb.cm Tb.io _ _ _ _ _ _ := S
    rw [hK, hcm, hio'] at S'
    exact S'
  have isB : ∀ {F' : Hp} {v : V} {d : D}, Tb.Is F' v d → T.Is F' v d := fun i => by
    have i' : DL.Is Tb.X.K Tb.cm _ _ _ := i
    rw [hK, hcm] at i'
    exact i'
  have isB' : ∀ {F' : Hp} {v : V} {d : D}, T.Is F' v d → Tb.Is F' v d := fun i => by
    show DL.Is Tb.X.K Tb.cm _ _ _
    rw [hK, hcm]
    exact i
  have noD : ∀ {F' : Hp} {Γ' : List Sl} {σ' : L2.St} {H' : Hp} {o : HO}, T.Sat (upd B Dd o) F0 F' Γ' σ' H' → F' Dd = none := fun {F' Γ' σ' H' o} S => by
    cases z : F' Dd with
    | none => rfl
    | some u =>
      rcases S.nw Dd u z with h | h
      · rw [hF0D] at h; cases h
      · rw [upd_same] at h; cases h
  refine ⟨fun i m H => ∃ F Γ accV accD, Same F1 F ∧ m = ds.length - i ∧ i ≤ ds.length ∧ T.Sat (upd B Dd (.lst accV)) F0 F Γ (wipe σ vs) H ∧ IsAll T.X.K T.cm F accV accD ∧ loopL g ct (cap ce) vs (ds.drop i) accD Γ = some (.ok acc, Γ2),
    ⟨ds.length, F1, wipeG Γ1 vs, [], [], .refl _, by simp, Nat.zero_le _, (S1.wipeW hio).side hF1D (.inl hD), .nil, by simpa using e⟩, ?_⟩
  rintro i m H ⟨F, Γ, accV, accD, q, rfl, hi, S, ia, el⟩
  obtain ⟨w1, w2⟩ := hJ i F H q S.fh
  have hD1 : H Dd = some (.lst accV) := S.bh.at upd_same rfl
  by_cases hlt : i < ds.length
  · rw [List.drop_eq_getElem_cons hlt] at el
    obtain ⟨go, yl⟩ := w1 ds[i] (by simp [hlt])
    refine .inr ⟨go, fun H' => ∃ F Γ accV accD, Same F1 F ∧ T.Sat (upd B Dd (.lst accV)) F0 F Γ (wipe σ vs) H' ∧ IsAll T.X.K T.cm F accV accD ∧ loopL g ct (cap ce) vs (ds.drop (i + 1)) accD Γ = some (.ok acc, Γ2),
      fun H' ⟨F', Γ', aV, aD, h1, h2, h3, h4⟩ => ⟨ds.length - (i + 1), by omega, F', Γ', aV, aD, h1, rfl, hlt, h2, h3, h4⟩, fun x H' hy => ?_⟩
    obtain ⟨F2, t, ix⟩ := yl x H' hy
    have S2 := S.step t
    obtain ⟨Γa, eg, rest⟩ := loopL_cons el
    refine ⟨upd B Dd (.lst accV), F2, Γ, _, isB' ix, toB S2, ?_⟩
    rw [eg]
    intro F3 H3 σ3 q3 S3 hw3
    rw [wipe_wipe] at hw3
    have S3 := ofB S3
    refine ⟨hw3, upd B Dd (.lst accV), F3, Γa, toB S3, ?_⟩
    rcases rest with ⟨Γb, y, Γc, et, ey, hz, el'⟩ | ⟨Γb, et, el'⟩
    · rw [et]
      intro F4 H4 q4 S4
      show if true = true then _ else _
      rw [if_pos rfl]
      refine ⟨upd B Dd (.lst accV), F4, Γb, S4, ?_⟩
      rw [ey]
      intro F5 H5 q5 S5 v hv
      have S5 := ofB S5
      have hv := isB hv
      have hF5 := noD S5
      refine ⟨accV, S5.bh.at upd_same rfl, by rw [ia.length]; exact lt_big hz, F5, wipeG Γc vs, accV ++ [v], accD ++ [y], (((q.trans t.ff).trans q3).trans q4).trans q5, ?_, ?_, el'⟩
      · exact (S5.rewipe hio hw3).reside hF5 hBD
      · exact (ia.mono (((t.ff).trans q3).trans (q4.trans q5)) _).append (.cons hv .nil)
    · rw [et]
      intro F4 H4 q4 S4
      show if false = true then _ else _
      rw [if_neg (by simp)]
      exact ⟨F4, wipeG Γb vs, accV, accD, ((q.trans t.ff).trans q3).trans q4, (ofB S4).rewipe hio hw3, ia.mono ((t.ff.trans q3).trans q4) _, el'⟩
  · have ed : ds.drop i = [] := List.drop_eq_nil_of_le (by omega)
    rw [ed] at el
    simp only [loopL, Option.some.injEq, Prod.mk.injEq, Except.ok.injEq] at el
    obtain ⟨rfl, rfl⟩ := el
    refine .inl ⟨w2 (by omega), ?_⟩
    have hFD := noD S
    have SB : T.Sat B F0 F Γ (wipe σ vs) H := S.weakB (.up hBD)
    refine r2 F H q (Sat.unwipe S1 SB q) _ ⟨Dd, .lst accV, rfl, hFD, hBD, hD1, .lst ia, fun j d hj hs => ?_⟩
    rcases unwipe_get hj with ⟨_, k2⟩ | ⟨k1, k2⟩
    · unfold keepD at k2; split at k2 <;> cases k2
    · obtain ⟨a, ho, g1, _, g3, _⟩ := S.ow j d k2
      rw [wipe_ne k1] at g1
      rw [g1] at hs; injection hs with hs; injection hs with hs; injection hs with hs; subst hs
      rw [upd_same] at g3; cases g3
theorem pg_ex {X : Cx} {tg : Expr} {α : Type} {t : α → TG} (h : ∀ a, PG X tg (t a)) : PG X tg (fun v σ H Q => ∃ a, t a v σ H Q) := ⟨fun pins s σ H v u Q I r ⟨a, q⟩ => (h a).run pins s σ H v u Q I r q⟩
theorem pts_ex {X : Cx} {e : List Expr} {α : Type} {t : α → TT} (h : ∀ a, PTs X e (t a)) : PTs X e (fun σ H Q => ∃ a, t a σ H Q) := ⟨fun pins s σ H Q I ⟨a, q⟩ => (h a).run pins s σ H Q I q⟩
theorem pe_ex {X : Cx} {e : Expr} {α : Type} {t : α → TE} (h : ∀ a, PE X e (t a)) : PE X e (fun σ H Q => ∃ a, t a σ H Q) := ⟨fun pins s σ H Q I ⟨a, q⟩ => (h a).run pins s σ H Q I q⟩
abbrev tb (T : Tx) : Tx := { T with W := fun _ _ _ _ => False }
theorem re_lc {k : Nat} (own : List (Str × Nat)) (c : Cok T k) (hi : RI T tg iter ci) (hg : ∀ (s : Shared) (H : Hp) (C : Addr) (cl : List (Str × Addr)) (fp : List Addr), RGw (T.blk s H scope (compEnvC scope cl C T.X.env) fp) (own.map (·.2)) tg g)
    (ht : ∀ (s : Shared) (H : Hp) (C : Addr) (cl : List (Str × Addr)) (fp : List Addr), RTs (T.blk s H scope (compEnvC scope cl C T.X.env) fp) ifs ct) (he : ∀ (s : Shared) (H : Hp) (C : Addr) (cl : List (Str × Addr)) (fp : List Addr), RE (T.blk s H scope (compEnvC scope cl C T.X.env) fp) elt ce)
    (ok : blkC T.X.N T.X.env.scope scope own = true := by decide +kernel) (hio : ∀ v ∈ own.map (·.2), NoIo T v := by intro v hv; first | exact Or.inl rfl | (refine Or.inr ?_; simp only [List.map_cons, List.map_nil, List.mem_cons, List.not_mem_nil, or_false] at hv; omega))
    (hs : ∀ x, foldedSetIterable iter T.X.env x = pure x := by intro _; rfl) : RE T (.ListComp elt [⟨tg, iter, ifs, 0⟩] scope pos) (sLc (own.map (·.2)) ci g ct ce) := fun B F0 =>
  (pe_lc c.calm c.nd (hi B F0) (blkOk_by ok) (fun s H C cl fp => pg_ex fun B => hg s H C cl fp B F0) (fun s H C cl fp => pts_ex fun B => ht s H C cl fp B F0) (fun s H C cl fp => pe_ex fun B => rd_of (he s H C cl fp) B F0) hs).weak fun σ H Q h =>
    lc_weak (tb T) rfl rfl rfl hio h
end
end DL
namespace DL
open PySem L2 PyProof.Rows PySem.W
set_option maxHeartbeats 2000000 in
theorem meets_enum1 {v : Value} {o : Obj} {H : Heap → Prop} (B : Begins v o H) :
    Meets (Builtin.«enumerate.__new__» ⟨[.type "enumerate", v], []⟩) (fun _ R s => H s.heap ∧
      R (.ok (.ret (.ref (s.heap.push o).objs.size))) { s with heap := (s.heap.push o).push { cls := .type "enumerate", data := .fields #[.none, .bool false, .ref s.heap.objs.size, rawInt 0, .none, .none] } }) :=
  .of_wp fun prog w A R s h => by
    obtain ⟨hp, g, d, tk, os⟩ := s; obtain ⟨h1, h⟩ := h
    have hsub := sub_enumerate
    have q1 : ∀ {A' : Around} {E : Value → Shared → Prop} {Q : Value → Shared → Prop}, Q (.ref hp.objs.size) ⟨hp.push o, g, d, tk, os⟩ → wpAny (model prog w) A' (pyIter v) Q E ⟨hp, g, d, tk, os⟩ :=
      fun q => B.iter prog w _ _ ⟨hp, g, d, tk, os⟩ _ h1 q
    wp_walk using q1
    refine wpAny_stack_any fun st => wpAny_pure ?_
    split
    · rename_i c _ _ _ _ _
      cases (c == Value.type "enumerate")
      · wp_walk using q1
        exact ⟨_, rfl, h⟩
      · wp_walk using q1
        exact ⟨_, rfl, h⟩
    · wp_walk using q1
      exact ⟨_, rfl, h⟩
theorem enum_begins1 {prog : Program} {w : World} {A : Around} {E : Value → Shared → Prop} {s : Shared} {v : Value} {o : Obj} {H : Heap → Prop} {Q : Value → Shared → Prop} (B : Begins v o H) (h1 : H s.heap)
    (h : ∀ h', IsEnum h' (s.heap.objs.size + 1) s.heap.objs.size 0 .none → h'.get? s.heap.objs.size = some o → h'.objs.size = s.heap.objs.size + 2 →
      (∀ b o, s.heap.get? b = some o → h'.get? b = some o) → Q (.ref (s.heap.objs.size + 1)) { s with heap := h' }) :
    wpAny (model prog w) A (call (.type "enumerate") [v]) Q E s := by
  refine callType_new F.called_enumerate (by decide) (F.typeCall_enumerate_1 _) (F.newCall_enumerate_1 _) (fun obj => F.args_object_init_2 obj _) F.entry_enumerate_new (meets_enum1 B) ⟨h1, ?_⟩
  have hz : (s.heap.push o).objs.size = s.heap.objs.size + 1 := Heap.size_push ..
  show _ ∧ _
  rw [hz]
  have he : IsEnum ((s.heap.push o).push { cls := .type "enumerate", data := .fields #[.none, .bool false, .ref s.heap.objs.size, rawInt 0, .none, .none] }) (s.heap.objs.size + 1) s.heap.objs.size 0 .none := by
    have := Heap.get?_push_size (s.heap.push o) (o := { cls := .type "enumerate", data := .fields #[.none, .bool false, .ref s.heap.objs.size, rawInt 0, .none, .none] }) rfl
    rw [hz] at this; exact this
  refine ⟨⟨_, he, rfl⟩, h _ he (Heap.get?_push_of_some _ (Heap.get?_push_size _ B.free)) (by rw [Heap.size_push, hz]) fun b o x => Heap.get?_push_of_some _ (Heap.get?_push_of_some _ x)⟩
end DL
namespace DL
open PySem L2 PyProof.Rows PySem.W
def Src (P : Program) (w : World) (K : PySem.W.Frag) (R : Hp → Prop) (u : Value) (vs : List V) : Prop :=
  ∃ (o : Obj) (C : Heap → Prop) (fpX : List Addr) (O : Addr → Nat → Heap → Prop), Begins u o C ∧
    (∀ (X : Cx) (pins : List (Addr × Obj)) (σ : L2.St) (H : Hp) (s : Shared), X.prog = P → X.w = w → X.K = K → Inv X pins σ H s → R H → C s.heap) ∧
    (∀ h, C h → ∀ b ∈ fpX, b < h.objs.size) ∧
    (∀ A : Around, A.handled = none → ∀ it, it ∉ fpX → Draws P w A it (it :: fpX) vs.length (fun i x => ∃ y, vs[i]? = some y ∧ RelV y x) (fun i h => O it i h ∧ C h)) ∧
    (∀ it h, h.get? it = some o → O it 0 h) ∧ (∀ it i h h', O it i h → (∀ o, h.get? it = some o → h'.get? it = some o) → O it i h') ∧
    ∀ it i h, O it i h → ∃ ob, h.get? it = some ob ∧ ∀ v, ob.data ≠ .cell v
theorem vals_getV : ∀ {xs : List V} {us : List Value} {i : Nat} {u : Value}, Vals xs us → us[i]? = some u → ∃ y, xs[i]? = some y ∧ RelV y u
  | _, _, 0, u, .cons r t, e => by simp at e; subst e; exact ⟨_, rfl, r⟩
  | _, _, i + 1, u, .cons r t, e => by
    obtain ⟨y, h1, h2⟩ := vals_getV (i := i) t (by simpa using e)
    exact ⟨y, by simpa using h1, h2⟩
section
variable {P : Program} {w : World} {K : PySem.W.Frag} {a : Addr} {vs : List V}
theorem src_lst : Src P w K (fun H => SqL K H a vs) (.ref a) vs := by
  refine ⟨{ cls := .type "list_iterator", data := .fields #[.ref a, .int 0 0] }, fun h => ∃ its : List Value, Vals vs its ∧ h.IsList a its.toArray, [a], fun it i h => h.IsListIter it a i, ⟨fun prog w A E s Q ⟨its, _, hl⟩ h => (begins_list a its.toArray).iter prog w A E s Q hl h, fun h h' ⟨its, r, hl⟩ k => ⟨its, r, (begins_list a its.toArray).keeps h h' hl k⟩, rfl⟩,
    fun X pins σ H s hp hw hk I hR => ?_, fun h ⟨its, _, o, e, _⟩ b hb => ?_, fun A hh it hit => ?_, fun it h e => ⟨_, e, rfl, rfl⟩, fun it i h h' st k => st.at fun o e => k o e, fun it i h st => ?_⟩
  · subst hk
    obtain ⟨its, r, p, _⟩ := I.list hR
    exact ⟨its, r, p.isList⟩
  · rw [List.mem_singleton.mp hb]; exact Heap.lt_size e
  · have hne : a ≠ it := fun z => hit (by simp [z])
    refine ⟨fun i h st => ?_, fun i h h' st k => ⟨st.1.at fun o e => k it (by simp) o e, let ⟨its, r, hl⟩ := st.2; ⟨its, r, hl.at fun o e => k a (by simp) o e⟩⟩, fun i s Q E hi st hQ => ?_, fun s Q E st hE => ?_⟩
    · obtain ⟨o, e, _⟩ := st.1; exact ⟨o, e⟩
    · obtain ⟨st, its, r, hl⟩ := st
      refine (Draws.list hh it a hne its.toArray).item i s Q E (by rw [List.size_toArray, ← r.length]; exact hi) ⟨st, hl⟩ fun x h' tk hx st' sb => hQ x h' tk ?_ ⟨st'.1, its, r, st'.2⟩ sb
      exact vals_getV r (by simpa using hx)
    · obtain ⟨st, its, r, hl⟩ := st
      refine (Draws.list hh it a hne its.toArray).done s Q E ?_ hE
      rw [List.size_toArray, ← r.length]
      exact ⟨st, hl⟩
  · obtain ⟨o, e, _, d⟩ := st
    exact ⟨o, e, fun v z => by rw [d] at z; cases z⟩
theorem src_tup : Src P w K (fun H => SqT K H a vs) (.ref a) vs := by
  refine ⟨{ cls := .type "tuple_iterator", data := .fields #[.ref a, .int 0 0] }, fun h => ∃ its : List Value, Vals vs its ∧ h.IsTuple a its.toArray, [a], fun it i h => h.IsTupleIter it a i, ⟨fun prog w A E s Q ⟨its, _, hl⟩ h => (begins_tuple a its.toArray).iter prog w A E s Q hl h, fun h h' ⟨its, r, hl⟩ k => ⟨its, r, (begins_tuple a its.toArray).keeps h h' hl k⟩, rfl⟩,
    fun X pins σ H s hp hw hk I hR => ?_, fun h ⟨its, _, o, e, _⟩ b hb => ?_, fun A hh it hit => ?_, fun it h e => ⟨_, e, rfl, rfl⟩, fun it i h h' st k => st.at fun o e => k o e, fun it i h st => ?_⟩
  · subst hk
    obtain ⟨its, r, p, _⟩ := I.tuple hR
    exact ⟨its, r, p⟩
  · rw [List.mem_singleton.mp hb]; exact Heap.lt_size e
  · have hne : a ≠ it := fun z => hit (by simp [z])
    refine ⟨fun i h st => ?_, fun i h h' st k => ⟨st.1.at fun o e => k it (by simp) o e, let ⟨its, r, hl⟩ := st.2; ⟨its, r, hl.at fun o e => k a (by simp) o e⟩⟩, fun i s Q E hi st hQ => ?_, fun s Q E st hE => ?_⟩
    · obtain ⟨o, e, _⟩ := st.1; exact ⟨o, e⟩
    · obtain ⟨st, its, r, hl⟩ := st
      refine (Draws.tuple hh it a hne its.toArray).item i s Q E (by rw [List.size_toArray, ← r.length]; exact hi) ⟨st, hl⟩ fun x h' tk hx st' sb => hQ x h' tk ?_ ⟨st'.1, its, r, st'.2⟩ sb
      exact vals_getV r (by simpa using hx)
    · obtain ⟨st, its, r, hl⟩ := st
      refine (Draws.tuple hh it a hne its.toArray).done s Q E ?_ hE
      rw [List.size_toArray, ← r.length]
      exact ⟨st, hl⟩
  · obtain ⟨o, e, _, d⟩ := st
    exact ⟨o, e, fun v z => by rw [d] at z; cases z⟩
theorem src_str {x : Str} {t : Tok} : Src P w K (fun _ => True) (.str x t) (x.cps.toList.map fun c => V.str ⟨#[c]⟩) := by
  refine ⟨{ cls := .type (strIterType x), data := .fields #[.str x t, .int 0 0] }, fun _ => True, [], fun it i h => h.IsStrIter it (strIterType x) x t i, begins_text x t, fun _ _ _ _ _ _ _ _ _ _ => trivial, fun _ _ b hb => absurd hb (by simp), fun A hh it _ => ?_, fun it h e => ⟨_, e, rfl, rfl⟩, fun it i h h' st k => ?_, fun it i h st => ?_⟩
  · have W := Draws.text (prog := P) (w := w) hh it x t
    have hl : (x.cps.toList.map fun c => V.str ⟨#[c]⟩).length = x.cps.size := by simp
    rw [hl]
    refine ⟨fun i h st => W.live i h st.1, fun i h h' st k => ⟨W.frame i h h' st.1 fun b hb o e => k b hb o e, trivial⟩, fun i s Q E hi st hQ => ?_, fun s Q E st hE => W.done s Q E st.1 hE⟩
    refine W.item i s Q E hi st.1 fun y h' tk hy st' sb => hQ y h' tk ?_ ⟨st', trivial⟩ sb
    obtain ⟨c, u, hc, rfl⟩ := hy
    exact ⟨.str ⟨#[c]⟩, by simp [hc], u, rfl⟩
  · obtain ⟨o, e, r⟩ := st
    exact ⟨o, k o e, r⟩
  · obtain ⟨o, e, _, d⟩ := st
    exact ⟨o, e, fun v z => by rw [d] at z; cases z⟩
end
theorem src_of {T : Tx} {F : Hp} {v : V} {d : D} {ds : List D} {u : Value} (i : T.Is F v d) (e : seqI d = some ds) (r : RelV v u) :
    ∃ R vs, Src T.X.prog T.X.w T.X.K R u vs ∧ IsAll T.X.K T.cm F vs ds ∧ ∀ F' H', Same F F' → Same F' H' → R H' := by
  have i : DL.Is T.X.K T.cm F v d := i
  cases d <;> first | (cases e; done) | (cases e)
  · rw [IsT.str (H := F) (.inl i)] at r
    obtain ⟨t, rfl⟩ := r
    exact ⟨_, _, src_str, isAll_signs F _, fun _ _ _ _ => trivial⟩
  · cases i with
    | klst h hs => cases r; exact ⟨_, _, src_lst, hs, fun F' H' q fh => sql_same fh (sql_same q h)⟩
    | obj h ho => cases ho with
      | lst hs => cases r; exact ⟨_, _, src_lst, hs, fun F' H' q fh => .inl (.of (fh _ _ (q _ _ (h.flat rfl))))⟩
  · cases i with
    | ktup h hs => cases r; exact ⟨_, _, src_tup, hs, fun F' H' q fh => .of (fh _ _ (q _ _ h))⟩
    | ktupZ h ha hs => cases r; exact ⟨_, _, src_tup, hs, fun F' H' q fh => .inl (.inr ⟨_, fh _ _ (q _ _ h)⟩)⟩
    | obj h ho => cases ho
def Jp (n : Nat) (R : Hp → Prop) (PV : Nat → List V → Prop) : It :=
  ⟨fun i H => i < n ∧ R H, fun i H v H' => ∃ p ys, v = .ref p ∧ H p = none ∧ H' = upd H p (.tup ys) ∧ PV i ys, fun i H => i = n ∧ R H⟩
theorem turnW {P : Program} {w : World} {K : PySem.W.Frag} {elts : List Expr} {kk : Nat} {tpos : Pos} {n : Nat} {R : Hp → Prop} {PV : Nat → List V → Prop} {I0 : Addr} {fpO : List Addr} {SO : Nat → Heap → Prop} {SX : Heap → Prop} {Pt : Nat → Array Value → Prop}
    (hmem : I0 ∈ fpO) (hobj : ∀ i h, SO i h → ∀ b ∈ fpO, ∃ o, h.get? b = some o ∧ ∀ v, o.data ≠ .cell v) (hkeep : ∀ i h h', SO i h → (∀ b ∈ fpO, ∀ o, h.get? b = some o → h'.get? b = some o) → SO i h')
    (hR : ∀ (X : Cx) (pins : List (Addr × Obj)) (σ : L2.St) (H : Hp) (s : Shared), X.prog = P → X.w = w → X.K = K → Inv X pins σ H s → R H → SX s.heap)
    (hW : ∀ A : Around, A.handled = none → ∃ fp wr Mid, (∀ b ∈ wr, b ∈ fpO) ∧ WalksT P w A I0 fp wr n Pt (fun i h => SO i h ∧ SX h) Mid)
    (hself : ∀ (A : Around) (i : Nat) (s : Shared) (Q : Value → Shared → Prop) (E : Value → Shared → Prop), SO i s.heap → Q (.ref I0) s → wpAny (model P w) A (pyIter (.ref I0)) Q E s)
    (hP : ∀ i vals, Pt i vals → ∃ ys, PV i ys ∧ Vals ys vals.toList ∧ ys.length ≤ 3) : Turn P w K (.Tuple elts kk tpos) (Jp n R PV) fpO I0 SO where
  mem := hmem
  obj := hobj
  keep := hkeep
  item := by
    intro X hp hw hK hc i pins s σ H E I hf st hg
    subst hp hw hK
    obtain ⟨hi, hr⟩ := hg
    obtain ⟨fp, wr, Mid, hwr, W⟩ := hW X.A (I.ok.hd hc)
    refine W.item i s _ _ hi ⟨st, hR X pins σ H s rfl rfl rfl I hr⟩ fun p vals h' tk hPt hsz hT hm hk => ⟨.ref p, rfl, ?_⟩
    refine W.go elts kk tpos i p { s with heap := h', toks := tk } _ _ hm fun h2 st2 hk2 => ?_
    obtain ⟨ys, hy, rv, hl⟩ := hP i vals hPt
    have hT2 : h2.IsTuple p vals := hT.at fun o e => hk2 p o (W.apart i p h' hm) e
    have new : ObjOk X.prog X.w (upd H p (.tup ys)) h2 p (.tup ys) := ⟨by rw [sizeLine_eq]; omega, vals.toList, rv, by rw [Array.toArray_toList]; exact hT2⟩
    have I1 : Inv X pins σ (upd H p (.tup ys)) { s with heap := h2, toks := tk } := I.turnedNew (ch := fpO) (fun b o hb e => hk2 b o (fun z => hb (hwr b z)) (hk b o (fun z => hb (hwr b z)) e)) hf hsz new
    refine ⟨.ref p, _, I1, rfl, ⟨p, ys, rfl, I.hok.fresh hsz, rfl, hy⟩, st2.1, fun b hb => ?_⟩
    obtain ⟨o, e, _⟩ := hobj i s.heap st b hb
    rw [upd_ne (Nat.ne_of_lt (Nat.lt_of_lt_of_le (Heap.lt_size e) hsz))]
    exact (hf b hb).1
  done := by
    intro X hp hw hK hc i pins s σ H E I hf st hg
    subst hp hw hK
    obtain ⟨hi, hr⟩ := hg
    subst hi
    obtain ⟨fp, wr, Mid, hwr, W⟩ := hW X.A (I.ok.hd hc)
    exact W.done s _ _ ⟨st, hR X pins σ H s rfl rfl rfl I hr⟩ fun h' tk hk => ⟨rfl, I.turnedL (ch := fpO) (fun b o hb e => hk b o (fun z => hb (hwr b z)) e) hf⟩
  self := hself
def enumD (ds : List D) : List D := ds.zipIdx.map fun p => .tup [.int (p.2 : Nat), p.1]
def enumA : List D → Option (List D)
  | [d] => (seqI d).map enumD
  | _ => none
def zipD2 (xs ys : List D) : List D := List.zipWith (fun x y => .tup [x, y]) xs ys
def zipA2 : List D → Option (List D)
  | [d, e] => match seqI d, seqI e with
    | some xs, some ys => some (zipD2 xs ys)
    | _, _ => none
  | _ => none
theorem walkJ {T : Tx} {F : Hp} {n : Nat} {R : Hp → Prop} {PV : Nat → List V → Prop} {ds : List D} (hn : n = ds.length) (hR : ∀ F' H', Same F F' → Same F' H' → R H') (hP : ∀ (i : Nat) (d : D), ds[i]? = some d → ∃ es, d = .tup es ∧ ∀ ys, PV i ys → IsAll T.X.K T.cm F ys es) : Walk T (Jp n R PV) F ds := fun i F' H' q fh => by
  refine ⟨fun d hd => ⟨⟨by rw [hn]; exact lt_of_get hd, hR F' H' q fh⟩, fun x H2 ⟨p, ys, e, hp, eH, hy⟩ => ?_⟩, fun hi => ⟨by omega, hR F' H' q fh⟩⟩
  subst e; subst eH
  obtain ⟨es, rfl, k⟩ := hP i d hd
  exact ⟨upd F' p (.tup ys), .new fh hp, .ktup upd_same (((k ys hy).mono q _).mono (.up (fh.free hp)) _)⟩
theorem isAll_at {K : PySem.W.Frag} {cm : CM} {F : Hp} {vs : List V} {ds : List D} {i : Nat} {d : D} {y : V} (h : IsAll K cm F vs ds) (e : ds[i]? = some d) (e2 : vs[i]? = some y) : DL.Is K cm F y d := by
  obtain ⟨v, h1, h2⟩ := h.get e
  rw [e2] at h1; cases h1
  exact h2
section
variable {T : Tx} {e e2 e3 : Expr} {cs : M (List D)} {p pos tpos : Pos} {elts : List Expr} {kk : Nat}
theorem fresh_cells {X : Cx} {pins : List (Addr × Obj)} {σ : L2.St} {H : Hp} {s : Shared} {h' : Heap} {n : Nat} (I : Inv X pins σ H s) (fp : List Addr) (hf : ∀ b ∈ fp, s.heap.objs.size ≤ b) : ∀ b ∈ fp, FpOk X pins H b := fun b hb => I.fpOk (hf b hb) (I.hok.fresh (hf b hb))
theorem ri_enum (ha : RA T [e] cs) (hm : T.X.mg "enumerate" = none) (hg : Gl T.X "enumerate" := by rfl) (hs : starEach [e] T.X.env = [(false, eval e T.X.env)] := by rfl) :
    RI T (.Tuple elts kk tpos) (.Call (.Name "enumerate" p) [e] [] pos) (sRng enumA cs) := fun B F0 => by
  refine ⟨fun pins s σ H R I ⟨F, Γ, r⟩ => ?_⟩
  refine Call_ (ld_blt I hg hm boot_enumerate (callWith_type1 (thn ((ha B F0).run pos pins s σ H (fun vs H1 => ∃ F1 d ds, Same F1 H1 ∧ seqI d = some ds ∧ (∃ v, vs = [v] ∧ T.Is F1 v d) ∧ ∀ J, Walk T J F1 (enumD ds) → R J H1) I ⟨F, Γ, r.bnd.mono fun ds F1 Γ1 H1 q1 S1 r1 vs hvs => ?_⟩) fun us s1 h1 => ?_) hs rfl))
  · obtain ⟨_, ls, e0, k⟩ := ofO_run r1
    match ds, hvs, e0 with
    | [d], .cons i .nil, e0 =>
      simp only [enumA, Option.map_eq_some_iff] at e0
      obtain ⟨es, e1, rfl⟩ := e0
      exact ⟨F1, d, es, S1.fh, e1, ⟨_, rfl, i⟩, k⟩
  · obtain ⟨vs, H1, I1, rv, F1, d, ds, fh, ed, ⟨v, rfl, iv⟩, k⟩ := h1
    obtain ⟨u, rfl, ru⟩ := vals1 rv
    obtain ⟨Rh, ws, ⟨o, C, fpX, O, bg, tr, fr, dr, s0, ofr, ob⟩, iw, hR⟩ := src_of iv ed ru
    have hC := tr T.X pins σ H1 s1 rfl rfl rfl I1 (hR F1 H1 (.refl _) fh)
    refine enum_begins1 bg hC fun h' he hit hsz hk => wpAny_pyIter_enum he ?_
    have I2 : Inv T.X pins σ H1 { s1 with heap := h' } := I1.kept (t' := s1.toks) hk
    have hei : s1.heap.objs.size + 1 ≠ s1.heap.objs.size := Nat.succ_ne_self _
    have hef : s1.heap.objs.size + 1 ∉ fpX := fun z => absurd (fr _ hC _ z) (Nat.not_lt.mpr (Nat.le_succ _))
    have hif : s1.heap.objs.size ∉ fpX := fun z => absurd (fr _ hC _ z) (Nat.lt_irrefl _)
    have hef' : s1.heap.objs.size + 1 ∉ s1.heap.objs.size :: fpX := fun z => (List.mem_cons.mp z).elim hei hef
    refine ⟨s1.heap.objs.size + 1, [s1.heap.objs.size + 1, s1.heap.objs.size], fun i h => (∃ old, IsEnum h (s1.heap.objs.size + 1) s1.heap.objs.size (0 + (i : Int)) old) ∧ O s1.heap.objs.size i h, Jp ds.length Rh (fun i ys => ∃ y, ws[i]? = some y ∧ ys = [.int (i : Nat), y]), H1, rfl, I2,
      turnW (SX := C) (Pt := fun i vals => ∃ t x, (∃ y, ws[i]? = some y ∧ RelV y x) ∧ vals = #[.int (0 + (i : Int)) t, x]) (by simp) (fun i h st b hb => ?_) (fun i h h' st kk => ?_) tr (fun A hh => ?_) (fun A i s Q E st q => ?_) (fun i vals hp => ?_), ⟨⟨.none, by simpa using he⟩, s0 _ _ hit⟩, fresh_cells (h' := h') (n := 0) I1 _ (fun b hb => ?_), k _ (walkJ (by simp [enumD]) hR fun i d hd => ?_)⟩
    · rcases List.mem_cons.mp hb with rfl | hb
      · obtain ⟨old, q⟩ := st.1; exact ⟨_, q, fun v z => nomatch z⟩
      · rw [List.mem_singleton.mp hb]; exact ob _ _ _ st.2
    · obtain ⟨⟨old, q⟩, st⟩ := st
      exact ⟨⟨old, kk _ (by simp) _ q⟩, ofr _ _ _ _ st fun o e => kk _ (by simp) o e⟩
    · have W := WalksT.enumFrom (A := A) 0 (dr A.in1 hh s1.heap.objs.size hif) (s1.heap.objs.size + 1) hei hef' (by simp)
      rw [iw.length] at W
      have ee : (fun (i : Nat) (h : Heap) => (∃ old, IsEnum h (s1.heap.objs.size + 1) s1.heap.objs.size (0 + (i : Int)) old) ∧ O s1.heap.objs.size i h ∧ C h) = fun (i : Nat) (h : Heap) => ((∃ old, IsEnum h (s1.heap.objs.size + 1) s1.heap.objs.size (0 + (i : Int)) old) ∧ O s1.heap.objs.size i h) ∧ C h := by
        funext i h
        exact propext and_assoc.symm
      have W2 := W
      rw [ee] at W2
      exact ⟨_, _, _, fun b hb => hb, W2⟩
    · obtain ⟨⟨old, q1⟩, _⟩ := st
      exact wpAny_pyIter_enum q1 q
    · obtain ⟨t, x, ⟨y, h1, h2⟩, rfl⟩ := hp
      exact ⟨[.int (i : Nat), y], ⟨y, h1, rfl⟩, .cons ⟨t, by simp⟩ (.cons h2 .nil), by simp⟩
    · rcases List.mem_cons.mp hb with rfl | hb
      · exact Nat.le_succ _
      · rw [List.mem_singleton.mp hb]; exact Nat.le_refl _
    · simp only [enumD, List.getElem?_map, List.getElem?_zipIdx, Option.map_map, Option.map_eq_some_iff] at hd
      obtain ⟨d0, h1, rfl⟩ := hd
      refine ⟨_, rfl, fun ys ⟨y, h2, e⟩ => ?_⟩
      subst e
      simp only [Nat.zero_add]
      exact .cons (.int _) (.cons (isAll_at iw h1 h2) .nil)
theorem ri_zip2 (ha : RA T [e, e2] cs) (hm : T.X.mg "zip" = none) (hg : Gl T.X "zip" := by rfl) (hs : starEach [e, e2] T.X.env = (false, eval e T.X.env) :: starEach [e2] T.X.env := by rfl) (hpl : (backTo pos (starEach [e2] T.X.env)).any (·.1) = false := by rfl) :
    RI T (.Tuple elts kk tpos) (.Call (.Name "zip" p) [e, e2] [] pos) (sRng zipA2 cs) := fun B F0 => by
  refine ⟨fun pins s σ H R I ⟨F, Γ, r⟩ => ?_⟩
  refine Call_ (ld_blt I hg hm boot_zip (callWith_type1 (thn ((ha B F0).run pos pins s σ H (fun vs H1 => ∃ F1 d d2 xs ys, Same F1 H1 ∧ seqI d = some xs ∧ seqI d2 = some ys ∧ (∃ v v2, vs = [v, v2] ∧ T.Is F1 v d ∧ T.Is F1 v2 d2) ∧ ∀ J, Walk T J F1 (zipD2 xs ys) → R J H1) I ⟨F, Γ, r.bnd.mono fun ds F1 Γ1 H1 q1 S1 r1 vs hvs => ?_⟩) fun us s1 h1 => ?_) hs hpl))
  · obtain ⟨_, ls, e0, k⟩ := ofO_run r1
    match ds, hvs, e0 with
    | [d, d2], .cons i (.cons i2 .nil), e0 =>
      simp only [zipA2] at e0
      split at e0
      · rename_i xs ys e1 e2
        cases e0
        exact ⟨F1, d, d2, xs, ys, S1.fh, e1, e2, ⟨_, _, rfl, i, i2⟩, k⟩
      · cases e0
  · obtain ⟨vs, H1, I1, rv, F1, d, d2, xs, ys, fh, ed, ed2, ⟨v, v2, rfl, iv, iv2⟩, k⟩ := h1
    obtain ⟨u, u2, rfl, ru, ru2⟩ := vals2 rv
    obtain ⟨Rh, ws, ⟨o, C, fpX, O, bg, tr, fr, dr, s0, ofr, ob⟩, iw, hR⟩ := src_of iv ed ru
    obtain ⟨Rh2, ws2, ⟨o2, C2, fpX2, O2, bg2, tr2, fr2, dr2, s02, ofr2, ob2⟩, iw2, hR2⟩ := src_of iv2 ed2 ru2
    have hC := tr T.X pins σ H1 s1 rfl rfl rfl I1 (hR F1 H1 (.refl _) fh)
    have hC2 := tr2 T.X pins σ H1 s1 rfl rfl rfl I1 (hR2 F1 H1 (.refl _) fh)
    refine zip_begins2 bg bg2 hC hC2 fun h' hz hTI hTO g1 g2 hsz hk => wpAny_pyIter_zip hz ?_
    have I2 : Inv T.X pins σ H1 { s1 with heap := h' } := I1.kept (t' := s1.toks) hk
    generalize hN : s1.heap.objs.size = N at *
    have lo : ∀ b ∈ fpX, b < N := fun b hb => by rw [← hN]; exact fr _ hC b hb
    have lo2 : ∀ b ∈ fpX2, b < N := fun b hb => by rw [← hN]; exact fr2 _ hC2 b hb
    have n1 : N ∉ fpX := fun z => absurd (lo _ z) (Nat.lt_irrefl _)
    have n2 : N + 1 ∉ fpX2 := fun z => absurd (lo2 _ z) (Nat.not_lt.mpr (Nat.le_succ _))
    refine ⟨N + 4, [N + 4, N + 2, N + 3, N, N + 1], fun i h => (IsZip h (N + 4) (N + 2) (N + 3) .none ∧ IsTupOf2 h (N + 2) (.ref N) (.ref (N + 1)) ∧ ∃ a1 a2, IsTupOf2 h (N + 3) a1 a2) ∧ O N i h ∧ O2 (N + 1) i h,
      Jp (min xs.length ys.length) (fun H => Rh H ∧ Rh2 H) (fun i zs => ∃ y y2, ws[i]? = some y ∧ ws2[i]? = some y2 ∧ zs = [y, y2]), H1, rfl, I2,
      turnW (SX := fun h => C h ∧ C2 h) (Pt := fun i vals => ∃ x1 x2, (∃ y, ws[i]? = some y ∧ RelV y x1) ∧ (∃ y, ws2[i]? = some y ∧ RelV y x2) ∧ vals = #[x1, x2]) (by simp) (fun i h st b hb => ?_) (fun i h h' st kk => ?_) (fun X pins σ H s a1 a2 a3 I r => ⟨tr X pins σ H s a1 a2 a3 I r.1, tr2 X pins σ H s a1 a2 a3 I r.2⟩) (fun A hh => ?_) (fun A i s Q E st q => ?_) (fun i vals hp => ?_),
      ⟨⟨hz, hTI, _, _, hTO⟩, s0 _ _ g1, s02 _ _ g2⟩, fresh_cells (h' := h') (n := 0) I1 _ (fun b hb => ?_), k _ (walkJ (by simp [zipD2]) (fun F' H' a b => ⟨hR F' H' a b, hR2 F' H' a b⟩) fun i d hd => ?_)⟩
    · obtain ⟨⟨st1, st2, a1, a2, st3⟩, st4, st5⟩ := st
      simp only [List.mem_cons, List.not_mem_nil, or_false] at hb
      rcases hb with rfl | rfl | rfl | rfl | rfl
      · exact ⟨_, st1, fun v z => nomatch z⟩
      · exact ⟨_, st2, fun v z => nomatch z⟩
      · exact ⟨_, st3, fun v z => nomatch z⟩
      · exact ob _ _ _ st4
      · exact ob2 _ _ _ st5
    · obtain ⟨⟨st1, st2, a1, a2, st3⟩, st4, st5⟩ := st
      exact ⟨⟨kk _ (by simp) _ st1, kk _ (by simp) _ st2, a1, a2, kk _ (by simp) _ st3⟩, ofr _ _ _ _ st4 fun o e => kk _ (by simp) o e, ofr2 _ _ _ _ st5 fun o e => kk _ (by simp) o e⟩
    · have W := WalksT.zipD2 (A := A) (zip_sep2 lo lo2) (dr A.in1 hh N n1) (dr2 A.in1 hh (N + 1) n2)
      rw [iw.length, iw2.length] at W
      have W2 := W
      have ee : (fun (i : Nat) (h : Heap) => IsZip h (N + 4) (N + 2) (N + 3) .none ∧ IsTupOf2 h (N + 2) (.ref N) (.ref (N + 1)) ∧ (∃ a1 a2, IsTupOf2 h (N + 3) a1 a2) ∧ (O N i h ∧ C h) ∧ O2 (N + 1) i h ∧ C2 h) =
            fun i h => ((IsZip h (N + 4) (N + 2) (N + 3) .none ∧ IsTupOf2 h (N + 2) (.ref N) (.ref (N + 1)) ∧ ∃ a1 a2, IsTupOf2 h (N + 3) a1 a2) ∧ O N i h ∧ O2 (N + 1) i h) ∧ C h ∧ C2 h := by
          funext i h
          exact propext ⟨fun ⟨b1, b2, b3, ⟨b4, b5⟩, b6, b7⟩ => ⟨⟨⟨b1, b2, b3⟩, b4, b6⟩, b5, b7⟩, fun ⟨⟨⟨b1, b2, b3⟩, b4, b6⟩, b5, b7⟩ => ⟨b1, b2, b3, ⟨b4, b5⟩, b6, b7⟩⟩
      rw [ee] at W2
      refine ⟨_, _, _, ?_, W2⟩
      · intro b hb
        simp only [List.mem_cons, List.not_mem_nil, or_false] at hb ⊢
        rcases hb with h | h | h | h <;> simp [h]
    · exact wpAny_pyIter_zip st.1.1 q
    · obtain ⟨x1, x2, ⟨y, h1, h2⟩, ⟨y2, h3, h4⟩, rfl⟩ := hp
      exact ⟨[y, y2], ⟨y, y2, h1, h3, rfl⟩, .cons h2 (.cons h4 .nil), by simp⟩
    · rw [hN]
      simp only [List.mem_cons, List.not_mem_nil, or_false] at hb
      rcases hb with rfl | rfl | rfl | rfl | rfl
      · exact Nat.le_add_right _ _
      · exact Nat.le_add_right _ _
      · exact Nat.le_add_right _ _
      · exact Nat.le_refl _
      · exact Nat.le_add_right _ _
    · simp only [zipD2, List.getElem?_zipWith] at hd
      rcases q1 : xs[i]? with _ | a <;> rcases q2 : ys[i]? with _ | b <;> simp only [q1, q2] at hd <;> cases hd
      refine ⟨_, rfl, fun zs ⟨y, y2, h1, h2, e⟩ => ?_⟩
      subst e
      exact .cons (isAll_at iw q1 h1) (.cons (isAll_at iw2 q2 h2) .nil)
end
end DL
namespace DL
open PySem L2 PyProof.Rows
def lookD : List Str → List D → Str → Option D
  | f :: fs, v :: vs, g => if g = f then some v else lookD fs vs g
  | _, _, _ => none
def putN (f : Str) : List Str → List Str
  | [] => [f]
  | k :: r => if k = f then k :: r else k :: putN f r
def putV (f : Str) (d : D) : List Str → List D → List D
  | [], _ => [d]
  | k :: r, v :: vs => if k = f then d :: vs else v :: putV f d r vs
  | _ :: _, [] => [d]
section
variable {K : PySem.W.Frag} {cm : CM} {F : Hp}
theorem look_ws : ∀ {ws : List (Str × V)} {fs : List Str} {vs : List D} {g : Str} {d : D}, ws.map (·.1) = fs → IsAll K cm F (ws.map (·.2)) vs → lookD fs vs g = some d → ∃ v, ws.lookup g = some v ∧ DL.Is K cm F v d
  | [], fs, vs, g, d, e, i, h => by cases e; cases h
  | (k, x) :: ws, fs, vs, g, d, e, i, h => by
    subst e
    cases i with
    | cons i is =>
      simp only [List.map_cons, lookD] at h
      by_cases hg : g = k
      · rw [if_pos hg] at h; cases h
        exact ⟨x, by simp [List.lookup, hg], i⟩
      · rw [if_neg hg] at h
        obtain ⟨v, h1, h2⟩ := look_ws rfl is h
        have : (g == k) = false := by simpa using hg
        exact ⟨v, by simp [List.lookup, this, h1], h2⟩
theorem look_none : ∀ {ws : List (Str × V)} {fs : List Str} {g : Str}, ws.map (·.1) = fs → fs.contains g = false → ws.lookup g = none
  | [], fs, g, e, h => rfl
  | (k, x) :: ws, fs, g, e, h => by
    subst e
    simp only [List.map_cons, List.contains_cons, Bool.or_eq_false_iff] at h
    simp only [List.lookup, h.1]
    exact look_none rfl h.2
theorem put_ws : ∀ {ws : List (Str × V)} {fs : List Str} {vs : List D} {f : Str} {v : V} {d : D}, ws.map (·.1) = fs → IsAll K cm F (ws.map (·.2)) vs → DL.Is K cm F v d → (putF f v ws).map (·.1) = putN f fs ∧ IsAll K cm F ((putF f v ws).map (·.2)) (putV f d fs vs)
  | [], fs, vs, f, v, d, e, i, h => by
    subst e; cases i
    exact ⟨rfl, .cons h .nil⟩
  | (k, x) :: ws, fs, vs, f, v, d, e, i, h => by
    subst e
    cases i with
    | cons i is =>
      have er : putF f v ((k, x) :: ws) = if k = f then (k, v) :: ws else (k, x) :: putF f v ws := rfl
      by_cases hk : k = f
      · rw [er, if_pos hk]
        simp only [List.map_cons, putN, putV, if_pos hk]
        exact ⟨trivial, .cons h is⟩
      · obtain ⟨h1, h2⟩ := put_ws (f := f) rfl is h
        rw [er, if_neg hk]
        simp only [List.map_cons, putN, putV, if_neg hk, h1]
        exact ⟨trivial, .cons i h2⟩
theorem len_ws {ws : List (Str × V)} {fs : List Str} (e : ws.map (·.1) = fs) : ws.length = fs.length := by rw [← e, List.length_map]
end
def app1 (f : D → Option Rf) (x : Rf) : M Rf := fun Γ => match rsv Γ x with
  | some d => lift (f d) Γ
  | none => none
def sOne (f : D → Option Rf) (a : M Rf) : M Rf := bnd (opnd a) (app1 f)
theorem Run.app1 {T : Tx} {B F0 F1 F : Hp} {Γ1 Γ : List Sl} {σ : L2.St} {H1 H : Hp} {Q : VK} {f : D → Option Rf} {x : Rf} {v : V} (r : Run T B F0 (DL.app1 f x) F Γ σ H fun r F' Γ' H' => ∀ v, IsRf T.X.K T.cm B F' Γ' σ H' v r → Q v H')
    (hv : IsRf T.X.K T.cm B F1 Γ1 σ H1 v x) (q : Same F1 F) : ∃ d, Same F H ∧ IsT T.X.K T.cm F H v d ∧ Res T F H Q (f d) := by
  obtain ⟨S, r⟩ := r
  rcases e1 : rsv Γ x with _ | d1
  · simp only [DL.app1, e1] at r
  · exact ⟨d1, S.fh, hv.rsv q S e1, Run.lift (Γ := Γ) ⟨S, by simpa only [DL.app1, e1] using r⟩⟩
def fldF (c : Nat) (f : Str) : D → Option Rf
  | .ins c' fs vs => if c' = c then (lookD fs vs f).map .dat else none
  | _ => none
section
variable {T : Tx} {o e : Expr} {co ce : M Rf} {pos pos' : Pos} {f m x : Str} {k : Nat}
theorem re_fld (c : Nat) (hc : Cls T.X.K (T.cm c)) (hn : NoAttr T.X.K (T.cm c) f) (ho : RE T o co) (hb : attributeBase o f T.X.env (eval o T.X.env) = eval o T.X.env := by rfl) : RE T (.Attribute o f pos) (sOne (fldF c f) co) := fun B F0 =>
  (pe_fld (re_opnd ho B F0) hb).weak fun σ H Q ⟨F, Γ, r⟩ => ⟨F, Γ, r.bnd.mono fun y F1 Γ1 H1 q1 S1 r1 v hv => by
    obtain ⟨d, fh, i, h⟩ := r1.app1 hv (.refl _)
    cases d with
    | ins c' fs vs =>
      simp only [fldF] at h
      split at h
      · rename_i hcc
        subst hcc
        obtain ⟨a, dx, ws, rfl, g1, g2, g3⟩ := i.ins fh
        rcases el : lookD fs vs f with _ | d
        · rw [el] at h; exact h.elim
        · rw [el] at h
          obtain ⟨u, h1, h2⟩ := look_ws g2 g3 el
          exact ⟨a, _, dx, ws, u, rfl, g1, hc, hn, h1, h.val fh h2⟩
      · exact h.elim
    | _ => exact h.elim⟩
def putM (c : Nat) (f : Str) : Fm := fun d ds => match d, ds with
  | .ins c' fs vs, [y] => if c' = c ∧ fs.length < 1000 then some (.ok (.dat .non), .ins c (putN f fs) (putV f y fs vs)) else none
  | _, _ => none
def sPutF (c : Nat) (f : Str) (a b : M Rf) : M Fl := bnd (cap b) fun d => bnd a fun r => bnd (lendA (putM c f) r [d]) fun _ => ret .nx
theorem RunS.lendA {φ : Fm} {r0 : Rf} {ds : List D} {B F0 F : Hp} {Γ : List Sl} {σ : L2.St} {H : Hp} {P : Rf → Hp → List Sl → L2.St → Hp → Prop} {v : V} (r : RunS T B F0 (DL.lendA φ r0 ds) F Γ σ H P) (hv : IsRf T.X.K T.cm B F Γ σ H v r0) :
    ∃ a ho d0 r1 d1 i, v = .ref a ∧ F a = none ∧ H a = some ho ∧ OwnIs T.X.K T.cm F ho d0 ∧ φ d0 ds = some (r1, d1) ∧ ∀ d, r1 = .ok (.dat d) → ∀ ho1 H', StepM T.cm a F H F H' → H' a = some ho1 → OwnIs T.X.K T.cm F ho1 d1 → P (.dat d) F (Γ.set i (.own d1)) σ H' := by
  cases r0 with
  | dat d => exact r.2.elim
  | own d => exact r.2.elim
  | slot i =>
    obtain ⟨S, r⟩ := r
    have hv := hv.1
    unfold DL.lendA DL.lendX at r
    simp only at r
    rcases q : Γ[i]? with _ | sl
    · simp only [q] at r
    cases sl with
    | un => simp only [q] at r
    | dat d => simp only [q] at r
    | own d0 =>
      simp only [q] at r
      obtain ⟨a, ho, h1, h2, h3, h4, h5⟩ := S.ow i d0 q
      rw [h1] at hv; injection hv with hv; injection hv with hv; subst hv
      rcases e : φ d0 ds with _ | ⟨r1, d1⟩
      · simp only [e] at r
      · refine ⟨a, ho, d0, r1, d1, i, rfl, h2, h4, h5, e, fun d hd ho1 H' t k1 k2 => ?_⟩
        subst hd
        simp only [e] at r
        exact r F H' σ (.refl _) (S.write q h1 t.hh t.ff t.fh t.nw t.tb k1 k2)
theorem rs_putF (c : Nat) (hc : Cls T.X.K (T.cm c)) (hn : NoAttr T.X.K (T.cm c) f) (ho : RE T o co) (he : RE T e ce) (hs : swapsWith e (some (.Attribute o f pos')) pos.line T.X.env = pure false := by rfl) : RS T (.Assign [.Attribute o f pos'] e pos) (sPutF c f co ce) := fun B F0 =>
  (ps_fld (ho B F0) (rd_of he B F0) hs).weak fun D σ H ⟨F, Γ, r⟩ => ⟨F, Γ, r.bnd.run.mono fun d F1 Γ1 H1 q1 S1 r1 v hv => ⟨F1, Γ1, r1.bnd.run.mono fun r0 F2 Γ2 H2 q2 S2 r2 u hu => by
    obtain ⟨a, ho, d0, r1, d1, i, rfl, h2, h4, h5, hφ, k⟩ := r2.bnd.lendA hu
    cases d0 with
    | ins c' fs vs =>
      simp only [putM] at hφ
      split at hφ
      · rename_i hcc
        obtain ⟨rfl, hl⟩ := hcc
        simp only [Option.some.injEq, Prod.mk.injEq] at hφ
        obtain ⟨rfl, rfl⟩ := hφ
        cases h5 with
        | ins hf hs =>
          obtain ⟨p1, p2⟩ := put_ws (f := f) hf hs (hv.mono q2 _)
          exact ⟨a, _, _, _, rfl, h4, hc, hn, by rw [len_ws hf]; exact hl, (k _ rfl _ _ (step_upd S2.fh h2 h4 rfl) upd_same (.ins p1 p2)).ret.2⟩
      · cases hφ
    | _ => cases hφ⟩⟩
theorem grd_make {A : Around} {C : Addr} {us : List Value} {kw : List (Str × Value)} (h : A.guards = some []) : (A.under (.builtin "type.__call__" ⟨.ref C :: us, kw⟩)).guards = some [] := by
  have hg : (Code.builtin "type.__call__" ⟨.ref C :: us, kw⟩).isGuard = false := by
    show guardIds.contains "type.__call__" = false
    decide
  simp [Around.under, Code.guards, hg, pushGuards, h]
structure DefMk (P : Program) (w : World) (K : PySem.W.Frag) (mg : Str → Option Value) (base : Heap) (cm : CM) (k : Nat) (x : Str) (c : Nat) (ps : List Str) (φ : Fm) : Prop where
  ex : ∃ f fd, mg x = some (.ref (cm c)) ∧ Mk K (cm c) f ∧ Binds K fd ps [] ∧ FnG P w K mg base k f fd ps (spM K cm ps.length φ)
def makeF (c n : Nat) (φ : Fm) : Fn := fun ds => if ds.length + 1 = n then match φ (.ins c [] []) ds with
    | some (.ok (.dat .non), d1) => some (.ok (.own d1))
    | some (.error e, _) => some (.error e)
    | _ => none
  else none
variable {p apos : Pos} {es : List Expr} {cs : M (List D)} {ps : List Str} {φ : Fn} {φm : Fm}
theorem re_make (c : Nat) (G : DefMk T.X.prog T.X.w T.X.K T.X.mg T.X.base T.cm k x c ps φm) (ck : Cok T (k + 1)) (ha : RA T (e :: es) cs) (hg : Gl T.X x := by rfl) (hdb : (x == ("__debug__" : Str)) = false := by decide)
    (he : starEach (e :: es) T.X.env = (false, eval e T.X.env) :: starEach es T.X.env := by rfl) (hpl : (backTo pos (starEach es T.X.env)).any (·.1) = false := by rfl) : RE T (.Call (.Name x p) (e :: es) [] pos) (sCallF (makeF c ps.length φm) cs) := fun B F0 => by
  obtain ⟨f, fd, hm, hM, hb, F⟩ := G.ex
  refine ⟨fun pins s σ H Q I ⟨F1, Γ1, r⟩ => ?_⟩
  refine wpAny_Call_Name_kw (ld_glob I hg hm ?_ hdb)
  refine PySem.W.callWith_K (h₀ := T.X.base) I.ok.mod.kin hM.kp (thn ((ha B F0).run pos pins s σ H (fun vs H1 => ∃ F2 ds r0, FT T.cm F2 H1 ∧ IsAll T.X.K T.cm F2 vs ds ∧ makeF c ps.length φm ds = some r0 ∧ ResX T.X.K T.cm F2 H1 Q (WE T.W σ) r0) I ⟨F1, Γ1, r.bnd.mono fun ds F2 Γ2 H2 q2 S2 r2 vs hvs => ?_⟩) fun us s1 ⟨vs, H1, I1, rv, F2, ds, r0, ⟨fh, tb⟩, hvs, e0, h0⟩ => ⟨I1.kIn, ?_⟩) he hpl
  · obtain ⟨r0, e0, h0⟩ := r2.liftX
    exact ⟨F2, ds, r0, S2.ft, hvs, e0, h0⟩
  · have I2 := Inv.made (C := T.cm c) I1
    have n1 : H1 (s1.heap.objs.size + 1) = none := I1.hok.fresh (Nat.le_succ _)
    have n2 : H1 s1.heap.objs.size = none := I1.hok.fresh (Nat.le_refl _)
    have ne : s1.heap.objs.size ≠ s1.heap.objs.size + 1 := Nat.ne_of_lt (Nat.lt_succ_self _)
    generalize hx : s1.heap.objs.size + 1 = x0 at *
    generalize hdx : s1.heap.objs.size = dx at *
    have sH : Same H1 (upd (upd H1 dx (.own x0)) x0 (.ins (T.cm c) dx [])) := fun b o e => by
      rw [upd_ne (ne_of_none e n1), upd_ne (ne_of_none e n2)]; exact e
    have tbU : TabsF T.cm F2 H1 → TabsF T.cm F2 (upd (upd H1 dx (.own x0)) x0 (.ins (T.cm c) dx [])) := fun t0 => t0.step (.refl _) (fun b ps e => sH b _ e) (fun b ps e => upd_tbl rfl (upd_tbl rfl e)) fun _ _ e => .inl e
    unfold makeF at e0
    split at e0
    · rename_i hl
      rcases eφ : φm (.ins c [] []) ds with _ | ⟨r1, d1⟩
      · simp only [eφ] at e0; cases e0
      have toStep : ∀ {F' H' : Hp}, StepM T.cm x0 F2 (upd (upd H1 dx (.own x0)) x0 (.ins (T.cm c) dx [])) F' H' → Step T.cm F2 H1 F' H' := fun t => ⟨fun b o e => t.hh b o (ne_of_none e n1) (sH b o e), t.ff, t.fh, (fun p o e => by
        rcases t.nw p o e with h | h
        · exact .inl h
        · refine .inr ?_
          by_cases hp : p = x0
          · subst hp; exact n1
          · rw [upd_ne hp] at h
            by_cases hp2 : p = dx
            · subst hp2; exact n2
            · rw [upd_ne hp2] at h; exact h), fun t0 => t.tb (tbU t0)⟩
      have xF : ∀ {F' H' : Hp}, StepM T.cm x0 F2 (upd (upd H1 dx (.own x0)) x0 (.ins (T.cm c) dx [])) F' H' → F' x0 = none := fun {F' H'} t => by
        cases z : F' x0 with
        | none => rfl
        | some o =>
          rcases t.nw x0 o z with h | h
          · rw [fh.free n1] at h; cases h
          · rw [upd_same] at h; cases h
      have hq : spM T.X.K T.cm ps.length φm (.ref x0 :: vs) (upd (upd H1 dx (.own x0)) x0 (.ins (T.cm c) dx [])) (fun v H2 => v = .non ∧ Q (.ref x0) H2) (WE T.W σ) := by
        refine ⟨F2, x0, _, .ins c [] [], vs, ds, r1, d1, rfl, by simp only [List.length_cons, hvs.length, hl], ⟨fh.trans sH, tbU tb⟩, fh.free n1, upd_same, .ins rfl .nil, hvs, eφ, ?_⟩
        match r1, eφ with
        | .ok (.dat .non), eφ =>
          simp only [eφ, Option.some.injEq] at e0
          subst e0
          intro v ho1 F' H' t k1 k2 iv
          exact ⟨IsT.non (H := H') (.inl iv), h0 x0 ho1 F' H' (toStep t) n1 (xF t) k1 k2⟩
        | .error er, eφ =>
          simp only [eφ, Option.some.injEq] at e0
          subst e0
          exact fun ho1 F' H' cls d t k1 k2 ie => h0 F' H' cls d (toStep t) ie
        | .ok (.dat (.bl _)), eφ => simp only [eφ] at e0; cases e0
        | .ok (.dat (.int _)), eφ => simp only [eφ] at e0; cases e0
        | .ok (.dat (.str _)), eφ => simp only [eφ] at e0; cases e0
        | .ok (.dat (.ty _)), eφ => simp only [eφ] at e0; cases e0
        | .ok (.dat (.cls _)), eφ => simp only [eφ] at e0; cases e0
        | .ok (.dat (.lst _)), eφ => simp only [eφ] at e0; cases e0
        | .ok (.dat (.tup _)), eφ => simp only [eφ] at e0; cases e0
        | .ok (.dat (.dic _ _)), eφ => simp only [eφ] at e0; cases e0
        | .ok (.dat (.dix _ _)), eφ => simp only [eφ] at e0; cases e0
        | .ok (.dat (.kn _)), eφ => simp only [eφ] at e0; cases e0
        | .ok (.dat (.ins _ _ _)), eφ => simp only [eφ] at e0; cases e0
        | .ok (.dat (.exc _ _ _)), eφ => simp only [eφ] at e0; cases e0
        | .ok (.dat (.lam _ _ _ _ _)), eφ => simp only [eφ] at e0; cases e0
        | .ok (.own _), eφ => simp only [eφ] at e0; cases e0
        | .ok (.slot _), eφ => simp only [eφ] at e0; cases e0
      have r2 : Vals (V.ref x0 :: vs) (Value.ref x0 :: us) := .cons rfl rv
      have hl2 : (Value.ref x0 :: us ++ []).length = ps.length := by
        have e := r2.length
        rw [F.len _ _ _ _ hq] at e
        simpa using e.symm
      have hbb := hb _ (Value.ref x0 :: us) I2.kIn hl2
      rw [List.append_nil] at hbb
      have goal : wpAny (model T.X.prog T.X.w) T.X.A (call (.ref (T.cm c)) us) (EP T.X pins σ Q) T.X.xe s1 := by
        refine wpAny_call (make_map (f := f) I1.kIn hM.makes hM.init (beq_iff_eq.mp hM.fn) ?_)
        simp only [hx, hdx]
        refine codeAny_mono (F.run _ T.X.stack _ _ ⟨Value.ref x0 :: us, []⟩ (Value.ref x0 :: us) _ _ (WE T.W σ) (ck.room.make (T.cm c) us []) (grd_make ck.grd) (I2.env0.make (T.cm c) us []) hbb r2 hq) fun r s' hq' => ?_
        cases r with
        | error er => exact passAt ck.tk σ pins _ _ er s' I2 hq'
        | ok fl =>
          cases fl with
          | ret u =>
            obtain ⟨v, H', I3, rv', ev, q3⟩ := I2.after hq'
            subst ev
            exact ⟨rv', ⟨V.ref x0, H', I3, rfl, q3⟩⟩
          | next => exact False.elim hq'
          | brk => exact False.elim hq'
          | cont => exact False.elim hq'
      exact goal
    · cases e0
end
end DL
namespace DL
open PySem L2 PyProof.Rows
def isInsB (c : Nat) (m : Str) : D → Bool
  | .ins c' fs _ => decide (c' = c) && !fs.contains m
  | _ => false
def insA (c : Nat) (m : Str) (d : D) : M Unit := if isInsB c m d then ret () else fail
theorem isInsB_of {T : Tx} {c : Nat} {m : Str} {d : D} {F H : Hp} {v : V} (h : isInsB c m d = true) (fh : Same F H) (i : IsT T.X.K T.cm F H v d) : ∃ a dx ws, v = .ref a ∧ H a = some (.ins (T.cm c) dx ws) ∧ ws.lookup m = none := by
  cases d with
  | ins c' fs vs =>
    simp only [isInsB, Bool.and_eq_true, decide_eq_true_eq, Bool.not_eq_true'] at h
    obtain ⟨rfl, h2⟩ := h
    obtain ⟨a, dx, ws, e, g1, g2, g3⟩ := i.ins fh
    exact ⟨a, dx, ws, e, g1, look_none g2 h2⟩
  | _ => cases h
structure DefMet (P : Program) (w : World) (K : PySem.W.Frag) (mg : Str → Option Value) (base : Heap) (cm : CM) (k : Nat) (c : Nat) (m : Str) (ps : List Str) (φ : Fn) : Prop where
  ex : ∃ f fd, Cls K (cm c) ∧ Meth K (cm c) m f ∧ Binds K fd ps [] ∧ FnG P w K mg base k f fd ps (spD K cm ps.length φ)
def sMeth (c : Nat) (m : Str) (φ : Fn) (a : M Rf) (cs : M (List D)) : M Rf := bnd (cap a) fun d => bnd (insA c m d) fun _ => bnd cs fun ds => liftX (φ (d :: ds))
section
variable {T : Tx} {o e : Expr} {es : List Expr} {co ce : M Rf} {cs : M (List D)} {pos p apos : Pos} {f m x : Str} {k : Nat} {ps : List Str} {φ : Fn} {φm : Fm}
theorem insA_run {c : Nat} {d : D} {B F0 F : Hp} {Γ : List Sl} {σ : L2.St} {H : Hp} {P : Unit → Hp → List Sl → Hp → Prop} (r : Run T B F0 (insA c m d) F Γ σ H P) : isInsB c m d = true ∧ T.Sat B F0 F Γ σ H ∧ P () F Γ H := by
  unfold insA at r
  split at r
  · rename_i h; exact ⟨h, r.ret⟩
  · exact r.2.elim
theorem re_meth {pl : Sem Bool} (c : Nat) (G : DefMet T.X.prog T.X.w T.X.K T.X.mg T.X.base T.cm k c m ps φ) (ck : Cok T k) (ho : RE T o co) (ha : RA T (e :: es) cs)
    (hst : starEach (e :: es) T.X.env = (false, eval e T.X.env) :: starEach es T.X.env := by rfl) (hpl : (backTo pos (starEach es T.X.env)).any (·.1) = false := by rfl)
    (ht : eval (.Call (.Attribute o m apos) (e :: es) [] pos) T.X.env = (do
      let ov ← eval o T.X.env
      standAt apos.atName
      let (f, first) ← holding [ov] (getMethod ov m pl)
      callWith pos f first (backTo pos (starEach (e :: es) T.X.env)) (backToKw pos (keywordEach [] T.X.env))) := by rfl) :
    RE T (.Call (.Attribute o m apos) (e :: es) [] pos) (sMeth c m (argN ps.length φ) co cs) := fun B F0 => by
  obtain ⟨f, fd, hC, hM, hb, F⟩ := G.ex
  refine ⟨fun pins s σ H Q I ⟨F1, Γ1, r⟩ => ?_⟩
  refine PySem.W.methodCall_KW (pl := pl) (thn ((rd_of ho B F0).run pins s σ H (fun v H1 => (∃ a dx ws, v = .ref a ∧ H1 a = some (.ins (T.cm c) dx ws) ∧ ws.lookup m = none) ∧ tA T B F0 cs σ H1 fun vs H2 => spD T.X.K T.cm ps.length φ (v :: vs) H2 Q (WE T.W σ)) I
    ⟨F1, Γ1, r.bnd.mono fun d F2 Γ2 H2 q2 S2 r2 v hv => ?_⟩) fun u s1 ⟨v, H1, I1, rv, ⟨a, dx, ws, ev, ea, l⟩, q⟩ => ?_) ht
  · obtain ⟨hi, S3, r3⟩ := insA_run r2.bnd
    refine ⟨isInsB_of hi S3.fh (.inl hv), F2, Γ2, r3.bnd.mono fun ds F3 Γ3 H3 q3 S4 r4 vs hvs => ?_⟩
    obtain ⟨r0, e0, h0⟩ := r4.liftX
    unfold argN at e0
    split at e0
    · rename_i hn
      exact ⟨F3, d :: ds, r0, by rw [← hn]; simp [hvs.length], S4.ft, .cons (hv.mono q3 _) hvs, e0, h0⟩
    · cases e0
  · subst ev
    obtain rfl : u = Value.ref a := rv
    refine getmeth_ok I1 ea hC hM l ?_
    refine PySem.W.callWith_K (first := [.ref a]) (h₀ := T.X.base) I.ok.mod.kin hM.kp (thn ((ha B F0).run pos pins s1 σ H1 _ I1 q) fun us s2 ⟨vs, H2, I2, r, q2⟩ => ⟨I2.kIn, ?_⟩) hst hpl
    exact run_fnG (us := .ref a :: us) (vs := .ref a :: vs) F ck.room ck.grd hb .nil (passAt ck.tk σ) I2 (.cons rfl r) (by rw [List.append_nil]; exact q2)
structure DefPr (P : Program) (w : World) (K : PySem.W.Frag) (mg : Str → Option Value) (base : Heap) (cm : CM) (k : Nat) (c : Nat) (f : Str) (φ : Fn) : Prop where
  ex : ∃ p g fd, Cls K (cm c) ∧ PropOf K (cm c) f p g ∧ Binds K fd ["self"] [] ∧ FnG P w K mg base k g fd ["self"] (spD K cm 1 φ)
theorem getpropG {X : Cx} {pins : List (Addr × Obj)} {σ : L2.St} {H : Hp} {s : Shared} {Q : VK} {b : Bool} {E' : Value → Shared → Prop} {C p g a dx : Addr} {fs : List (Str × V)} {f : Str} {fd : FuncData} {sp : Sp} (I : Inv X pins σ H s) (ea : H a = some (.ins C dx fs)) (c : Cls X.K C) (hp : PropOf X.K C f p g)
    (F : FnG X.prog X.w X.K X.mg X.base k g fd ["self"] sp) (hr : Room (k + 1) X.A) (hgd : X.A.guards = some []) (hb : Binds X.K fd ["self"] []) (h : sp [.ref a] H Q fun _ _ _ => False) : wpAny (model X.prog X.w) X.A (getAttr (.ref a) f b) (EP X pins σ Q) E' s := by
  obtain ⟨mA, O, _, _, _, _⟩ := ins_get I.hok ea
  obtain ⟨od, J, _⟩ := O.look
  obtain ⟨rest, hrec⟩ := hp.rec_
  have I1 := I.tok (s.toks + 1)
  have hc : (PySem.W.clsIn X.K C).isSome = true := by
    obtain ⟨cd, hc, _⟩ := PySem.W.any_some c.hd
    rw [hc]
    rfl
  have hbb := hb { s with toks := s.toks + 1 } [.ref a] I1.kIn rfl
  rw [List.append_nil] at hbb
  refine PySem.W.get_bind I.kIn J (PySem.W.plainGet_of (c.get f)).1 (PySem.W.findObj_data hc hp.at_ hp.get hp.tak) (PySem.W.plainGet_of (c.get f)).2 (wpAny_call (PySem.W.prop_get (s := { s with toks := s.toks + 1 }) I.kIn hrec ?_))
  refine codeAny_mono (F.run X.A.in1 X.stack { s with toks := s.toks + 1 } H ⟨[.ref a], []⟩ [.ref a] [.ref a] Q (fun _ _ _ => False) hr.in1 hgd I1.env0.in1 hbb (.cons rfl .nil) h) fun r s' hq => ?_
  cases r with
  | error er =>
    obtain ⟨_, _, _, _, _, _, _, _, _, _, _, _, z⟩ := hq
    exact z.elim
  | ok fl =>
    cases fl with
    | ret u =>
      obtain ⟨v, H', I3, rv, q3⟩ := I1.after hq
      show wpAny _ _ (handedOut u) _ _ _
      rw [PySem.W.handedOut_of (handed_of rv)]
      exact wpAny_pure ⟨v, H', I3, rv, q3⟩
    | next => exact False.elim hq
    | brk => exact False.elim hq
    | cont => exact False.elim hq
def okX (o : Option Ans) : M Rf := fun Γ => match o with
  | some (.ok (.dat d)) => some (.ok (.dat d), Γ)
  | some (.ok (.own d)) => some (.ok (.own d), Γ)
  | _ => none
def sProp (c : Nat) (φ : Fn) (a : M Rf) : M Rf := bnd (cap a) fun d => bnd (insA c "" d) fun _ => okX (φ [d])
theorem Run.okX {o : Option Ans} {B F0 F : Hp} {Γ : List Sl} {σ : L2.St} {H : Hp} {Q : VK} (r : Run T B F0 (DL.okX o) F Γ σ H fun r F' Γ' H' => ∀ v, IsRf T.X.K T.cm B F' Γ' σ H' v r → Q v H') : ∃ r, o = some r ∧ ResX T.X.K T.cm F H Q (fun _ _ _ => False) r := by
  obtain ⟨S, r⟩ := r
  match o, r with
  | some (.ok (.dat d)), r => exact ⟨_, rfl, fun v F' H' t i => r F' H' t.ff (S.step t) v i⟩
  | some (.ok (.own d)), r =>
    refine ⟨_, rfl, fun a ho F' H' t n n' e h => r F' H' t.ff (S.step t) _ ⟨a, ho, rfl, n', S.bh.free n, e, h, fun i e' hg hs => ?_⟩⟩
    obtain ⟨a', ho', g1, _, _, g4, _⟩ := S.ow i e' hg
    rw [g1] at hs; injection hs with hs; injection hs with hs; injection hs with hs; subst hs
    rw [n] at g4; cases g4
  | some (.ok (.slot i)), r => exact r.elim
  | some (.error e), r => exact r.elim
  | none, r => exact r.elim
theorem re_prop (c : Nat) (G : DefPr T.X.prog T.X.w T.X.K T.X.mg T.X.base T.cm k c f φ) (ck : Cok T (k + 1)) (ho : RE T o co) (hab : attributeBase o f T.X.env (eval o T.X.env) = eval o T.X.env := by rfl) : RE T (.Attribute o f pos) (sProp c φ co) := fun B F0 => by
  obtain ⟨p, g, fd, hC, hP, hb, F⟩ := G.ex
  refine ⟨fun pins s σ H Q I ⟨F1, Γ1, r⟩ => ?_⟩
  refine attr_of hab (thn ((rd_of ho B F0).run pins s σ H (fun v H1 => (∃ a dx ws, v = .ref a ∧ H1 a = some (.ins (T.cm c) dx ws)) ∧ spD T.X.K T.cm 1 φ [v] H1 Q fun _ _ _ => False) I ⟨F1, Γ1, r.bnd.mono fun d F2 Γ2 H2 q2 S2 r2 v hv => ?_⟩) fun u s1 ⟨v, H1, I1, rv, ⟨a, dx, ws, ev, ea⟩, q⟩ => ?_)
  · obtain ⟨hi, S3, r3⟩ := insA_run r2.bnd
    obtain ⟨a, dx, ws, e1, e2, _⟩ := isInsB_of (T := T) hi S3.fh (.inl hv)
    obtain ⟨r0, e0, h0⟩ := r3.okX
    exact ⟨⟨a, dx, ws, e1, e2⟩, F2, [d], r0, rfl, S3.ft, .cons hv .nil, e0, h0⟩
  · subst ev
    obtain rfl : u = Value.ref a := rv
    exact getpropG I1 ea hC hP F ck.room ck.grd hb q
theorem ResM.ok {K : PySem.W.Frag} {cm : CM} {a : Addr} {F H : Hp} {Q : VK} {E E' : XK} {d1 : D} {r : Rf} (h : ResM K cm a F H Q E d1 (.ok r)) : ResM K cm a F H Q E' d1 (.ok r) := by
  cases r <;> exact h
theorem re_clsCon (c : Nat) {mc : Value} {v : V} {u : Value} {d : D} (hm : T.X.mg x = some (.ref (T.cm c))) (hr : ClX.CRead T.X.K (T.cm c) mc) (hv : ClX.CVal T.X.K (T.cm c) mc f v u) (i : ∀ F, T.Is F v d) (hg : Gl T.X x := by rfl) (hd : (x == ("__debug__" : Str)) = false := by decide)
    (hb : attributeBase (.Name x p) f T.X.env (eval (.Name x p) T.X.env) = eval (.Name x p) T.X.env := by rfl) : RE T (.Attribute (.Name x p) f pos) (sK d) :=
  re_const (v := v) ((ClX.pe_cval (pe_glob (v := .ref (T.cm c)) hg hm rfl hd) hb).weak fun σ H Q q => ⟨_, mc, v, u, rfl, hr, hv, q⟩) i
def conF (c : Nat) (f : Str) (d0 : D) : D → Option Rf := fun d => if isInsB c f d then some (.dat d0) else none
theorem re_insCon (c : Nat) {v : V} {u : Value} {d : D} (hc : Cls T.X.K (T.cm c)) (hk : Con T.X.K (T.cm c) f v u) (i : ∀ F, T.Is F v d) (ho : RE T o co) (hb : attributeBase o f T.X.env (eval o T.X.env) = eval o T.X.env := by rfl) : RE T (.Attribute o f pos) (sOne (conF c f d) co) := fun B F0 =>
  (pe_con (re_opnd ho B F0) hb).weak fun σ H Q ⟨F, Γ, r⟩ => ⟨F, Γ, r.bnd.mono fun y F1 Γ1 H1 q1 S1 r1 w hw => by
    obtain ⟨d', fh, ix, h⟩ := r1.app1 hw (.refl _)
    unfold conF at h
    split at h
    · rename_i hi
      obtain ⟨a, dx, ws, e1, e2, e3⟩ := isInsB_of (T := T) hi fh ix
      exact ⟨a, _, dx, ws, v, u, e1, e2, hc, hk, e3, h.val fh (i F1)⟩
    · exact h.elim⟩
end
end DL
namespace DL
open PySem PySem.Spec PyProof.Rows L2
section
open PySem.W PySem.Calls PySem.Builtin PySem.Builtin.ObjectAttr
def overT (tl : List Value) : List Value → Bool
  | .ref _ :: r => overT tl r
  | l => l == tl
abbrev tailE (B : String) : List Value := [.type B, .type "Exception", .type "BaseException", .type "object"]
inductive BaseX : String → String → String → List Value → Prop
  | ve : BaseX "ValueError" "ValueError.__new__" "ValueError.__init__" (tailE "ValueError")
  | rt : BaseX "RuntimeError" "RuntimeError.__new__" "RuntimeError.__init__" (tailE "RuntimeError")
  | lk : BaseX "LookupError" "LookupError.__new__" "LookupError.__init__" (tailE "LookupError")
theorem BaseX.pass {B n i : String} {tl : List Value} (b : BaseX B n i tl) (self : Value) : refuseLoop self ("__setattr__" : Str) tl = pure () := by
  cases b <;> rfl
theorem BaseX.facts {B n i : String} {tl : List Value} (b : BaseX B n i tl) : ExcBaseFacts B n i tl := by
  cases b
  · exact F.excBase_ValueError
  · exact F.excBase_RuntimeError
  · exact F.excBase_LookupError
theorem BaseX.obj {B n i : String} {tl : List Value} (b : BaseX B n i tl) : tl.contains (.type "object") = true := by
  cases b <;> decide +kernel
theorem overT_eq {tl l : List Value} (h : overT tl l = true) : ∃ pre : List Value, l = pre ++ tl ∧ ∀ v ∈ pre, ∃ c, v = .ref c := by
  induction l with
  | nil =>
    have : ([] : List Value) = tl := by simpa [overT] using h
    exact ⟨[], by simpa using this, fun v hv => absurd hv (by simp)⟩
  | cons v r ih =>
    cases v with
    | ref c =>
      obtain ⟨pre, e, k⟩ := ih h
      refine ⟨.ref c :: pre, by rw [e]; rfl, fun v hv => ?_⟩
      rcases List.mem_cons.mp hv with rfl | hv
      · exact ⟨c, rfl⟩
      · exact k v hv
    | _ =>
      simp only [overT, beq_iff_eq] at h
      exact ⟨[], by simpa using h, fun v hv => absurd hv (by simp)⟩
theorem over_pass {B n i : String} {tl : List Value} (b : BaseX B n i tl) (self : Value) {l : List Value} (h : overT tl l = true) : refuseLoop self ("__setattr__" : Str) l = pure () := by
  obtain ⟨pre, rfl, k⟩ := overT_eq h
  induction pre with
  | nil => exact b.pass self
  | cons v pre ih =>
    obtain ⟨c, rfl⟩ := k v (by simp)
    rw [List.cons_append, refuseLoop_ref]
    exact ih (fun v hv => k v (by simp [hv])) h
theorem over_contains {tl l : List Value} (h : overT tl l = true) (Y : String) : l.contains (.type Y) = tl.contains (.type Y) := by
  obtain ⟨pre, rfl, k⟩ := overT_eq h
  clear h
  induction pre with
  | nil => rfl
  | cons v pre ih =>
    obtain ⟨c, rfl⟩ := k v (by simp)
    rw [List.cons_append, List.contains_cons, ih (fun v hv => k v (by simp [hv]))]
    rfl
theorem over_ne {B n i : String} {tl l : List Value} (b : BaseX B n i tl) (h : overT tl l = true) : l.isEmpty = false := by
  have := (over_contains h "object").trans b.obj
  cases l with
  | nil => simp at this
  | cons _ _ => rfl
variable {prog : Program} {w : World} {A : Around} {E : Value → Shared → Prop} {R : Result → Shared → Prop} {hp : Heap} {g : Array GenState} {d : Drawn} {t : Nat} {os : OsState} {B nI iI : String} {tl : List Value}
theorem osa_start {s : Shared} {name : Str} {tk : Tok} {v : Value} {x C : Addr} {ox : Obj} {cd : ClassData} {K : PySem.W.Frag} (b : BaseX B nI iI tl)
    (X : K.In s.heap) (hx : s.heap.get? x = some ox) (hcx : ox.cls = .ref C) (hcd : W.clsIn K C = some cd) (ho : overT tl cd.mro = true) (hf : W.findIn K (.ref C) name = some none)
    (h : wpAny (model prog w) A.in1 (storeInOwnDict (.ref x) (.ref C) (.str name tk) name v false) (fun fin s' => match fin with
      | .done f => R (.ok f) s'
      | .again c' => c'.quiet = true ∧ codeAny (model prog w) A c' R s') (fun e s' => R (.error e) s') s) :
    codeAny (model prog w) A (.call (.builtin "object.__setattr__") { pos := [.ref x, .str name tk, v] }) R s := by
  have hobj : PySem.W.mroIn K C (.type "object") = some true := by
    unfold PySem.W.mroIn
    rw [hcd, Option.bind_some, over_ne b ho, (over_contains ho "object").trans b.obj]
    rfl
  have L0 : W.Looks (model prog w) s.heap (typeOf (.ref x)) (.ref C) := fun A Q E s' k q => wpAny_typeOf_ref (k _ _ hx) (by rw [hcx]; exact q)
  have L1 : W.Looks (model prog w) s.heap (isInstance (.ref x) (.type "object")) true := L0.andThen (W.looks_mroIn X hobj)
  have L2 : W.Looks (model prog w) s.heap (mroOf (.ref C)) cd.mro := (W.looks_clsIn X hcd).andThen .now
  have L3 := W.looks_findIn (M := model prog w) X hf
  refine codeAny_call_builtin F.slot_object_setattr.plain F.entry_object_setattr ?_
  refine @W.check_slot (model prog w) _ _ s "object.__setattr__" "object" "__setattr__" (.ref x) [.str name tk, v] [] _ (by decide +kernel) (by decide +kernel) L1 (F.args_object_setattr_3 (.ref x) (.str name tk) v) ?_
  rw [W.osa_eq, refuse_eq]
  refine wpAny_bind (wpAny_bind (L0.here (wpAny_bind (L2.here ?_))))
  rw [over_pass b _ ho]
  exact wpAny_pure (wpAny_bind (L0.here (wpAny_bind (L3.here (wpAny_bind (wpAny_pure h))))))
theorem own_first {K : PySem.W.Frag} {name : Str} {tk : Tok} {v : Value} {x C : Addr} {fv : Array Value} {cd : ClassData} {Q : Fin → Shared → Prop}
    (X : K.In hp) (hx : hp.get? x = some { cls := .ref C, data := .fields fv }) (hcd : W.clsIn K C = some cd) (hh : cd.hasDict = true)
    (hq : ∀ (h' : Heap) (tk' : Nat), (∀ b o, (hp.update x fun o => { o with dict := some hp.objs.size }).get? b = some o → h'.get? b = some o) → h'.Ns1 hp.objs.size (fun y => if y = name then some v else none) → Q (.done (.ret .none)) ⟨h', g, d, tk', os⟩) :
    wpAny (model prog w) A (storeInOwnDict (.ref x) (.ref C) (.str name tk) name v false) Q E ⟨hp, g, d, t, os⟩ := by
  have hc : W.Looks (model prog w) hp (classData C) cd := W.looks_clsIn X hcd
  have lt := Heap.lt_size hx
  cases cd
  subst hh
  unfold storeInOwnDict ownDictForStores
  repeat (first | with_reducible refine PySem.HandSPX.store_in_new ?nd ?_ | with_reducible refine wpAny_loadPart_at hx ?_ | with_reducible refine hc.at ?_ | wp_step)
  case nd => exact ⟨_, #[], _, (Heap.get?_update_ne _ _ _ _ (Nat.ne_of_gt lt)).trans (Heap.get?_push_at rfl rfl), rfl, fun e he => absurd he (by simp), fun _ => rfl⟩
  intro h' tk' n' sb
  refine hq h' tk' (fun b o ho => ?_) n'
  have hb : b < hp.objs.size := by have := Heap.lt_size ho; rwa [Heap.size_update] at this
  rw [sb.2 b (Nat.ne_of_lt hb), Heap.update_push _ _ _ _ (Nat.ne_of_lt lt)]
  exact Heap.get?_push_of_some _ ho
theorem own_more {K : PySem.W.Frag} {name : Str} {tk : Tok} {v : Value} {x C dx : Addr} {fv : Array Value} {cd : ClassData} {m0 : Str → Option Value} {nl : List Str} {Q : Fin → Shared → Prop}
    (X : K.In hp) (hx : hp.get? x = some { cls := .ref C, dict := some dx, data := .fields fv }) (hcd : W.clsIn K C = some cd) (hh : cd.hasDict = true) (hn : hp.Ns1 dx m0) (hw : Within m0 nl) (hz : nl.length ≤ 1000)
    (hq : ∀ (h' : Heap) (tk' : Nat), (∀ b o, b ≠ dx → hp.get? b = some o → h'.get? b = some o) → h'.Ns1 dx (fun y => if y = name then some v else m0 y) → Q (.done (.ret .none)) ⟨h', g, d, tk', os⟩) :
    wpAny (model prog w) A (storeInOwnDict (.ref x) (.ref C) (.str name tk) name v false) Q E ⟨hp, g, d, t, os⟩ := by
  have hc : W.Looks (model prog w) hp (classData C) cd := W.looks_clsIn X hcd
  obtain ⟨_, _, _, hD, _, _⟩ := hn.count hw
  cases cd
  subst hh
  unfold storeInOwnDict ownDictForStores
  repeat (first | with_reducible refine PySem.OEX.store_in_old hn hw hz ?_ | with_reducible refine wpAny_loadPart_at hx ?_ | with_reducible refine hc.at ?_ | wp_step)
  exact fun h' tk' n' sb => hq h' tk' (fun b o hb ho => (sb.2 b hb).trans ho) n'
end
structure OexG (K : PySem.W.Frag) (C : Addr) : Prop where
  cls : ∃ nm q N bs bm sn sub ab col dd k0 k1 k2 k3 k5, ∃ B nI iI tl, K.lookup C = some (excClassObj nm q C N bs bm true sn sub ab col dd k0 k1 k2 k3 k5 nI) ∧ BaseX B nI iI tl ∧ overT tl bm = true
  sa : PySem.W.findIn K (.ref C) "__setattr__" = some (some (.builtin "object.__setattr__"))
  exC : PySem.W.subIn K (.ref C) (.type "BaseException") = some true
  tyC : PySem.W.typeIn K (.ref C) = some (.type "type")
  kC : PySem.W.keepIn K (.ref C) = true
theorem OexG.data {K : PySem.W.Frag} {C : Addr} (T : OexG K C) : ∃ cd B nI iI tl, PySem.W.clsIn K C = some cd ∧ BaseX B nI iI tl ∧ overT tl cd.mro = true ∧ cd.hasDict = true := by
  obtain ⟨nm, q, N, bs, bm, sn, sub, ab, col, dd, k0, k1, k2, k3, k5, B, nI, iI, tl, hC, hB, hb⟩ := T.cls
  refine ⟨⟨nm, bs, .ref C :: bm, N, q, true, sn, sub, ab, col, false⟩, B, nI, iI, tl, ?_, hB, hb, rfl⟩
  unfold PySem.W.clsIn
  rw [hC] <;> rfl
section
variable {X : Cx} {pins : List (Addr × Obj)} {σ : L2.St} {H : Hp} {s : Shared} {a C dx : Addr} {f : Str} {y : V} {u : Value} {fs : List (Str × V)} {Q : Unit → Shared → Prop} {E : Value → Shared → Prop} {A : Around}
theorem ostG_new (T : OexG X.K C) (I : Inv X pins σ H s) (e : H a = some (exo a C none)) (hno : PySem.W.findIn X.K (.ref C) f = some none) (ry : RelV y u)
    (h : ∀ dx s', H dx = none → dx ≠ a → Inv X pins σ (upd (upd H dx (exd dx [(f, y)])) a (exo a C (some dx))) s' → Q () s') : wpAny (model X.prog X.w) A (setAttr (.ref a) f u) Q E s := by
  obtain ⟨cd, B, nI, iI, tl, hcl, hB, hm, hd⟩ := T.data
  obtain ⟨t1, ho⟩ := exo_at I.hok e
  obtain ⟨hp, g, d, t, os⟩ := s
  refine PySem.W.set_plain I.kIn (od := none) ⟨ho, rfl, rfl, trivial⟩ T.sa (osa_start hB I.kIn ho rfl hcl hm hno (own_first I.kIn ho hcl hd fun h' tk' k n => ?_))
  have sz : H hp.objs.size = none := I.hok.fresh (Nat.le_refl _)
  have ne : hp.objs.size ≠ a := Nat.ne_of_gt (Heap.lt_size ho)
  have ho' := Heap.get?_update_self (fun o : Obj => { o with dict := some hp.objs.size }) ho rfl
  have J := I.write (t' := t) (x := a) (e := a) (o := exo a C (some hp.objs.size)) (by rw [e]; exact True.intro) (.inl rfl) (fun b o hb q => (Heap.get?_update_ne _ _ _ _ hb).trans q) ⟨_, ho'⟩ (exo_ok ho')
  have J2 := J.laid (t' := tk') k (Nat.le_of_eq (Heap.size_update ..)) (exd_ok n (relO_put (fs := []) ry fun g => True.intro))
  refine h _ _ sz ne ?_
  rwa [show upd (upd H hp.objs.size (exd hp.objs.size [(f, y)])) a (exo a C (some hp.objs.size)) = upd (upd H a (exo a C (some hp.objs.size))) hp.objs.size (exd hp.objs.size [(f, y)]) from ?_]
  funext b
  by_cases h1 : b = a
  · subst h1; rw [upd_same, upd_ne (Ne.symm ne), upd_same]
  · by_cases h2 : b = hp.objs.size
    · subst h2; rw [upd_ne h1, upd_same, upd_same]
    · rw [upd_ne h1, upd_ne h2, upd_ne h2, upd_ne h1]
theorem ostG_old (T : OexG X.K C) (I : Inv X pins σ H s) (e : H a = some (exo a C (some dx))) (ed : H dx = some (exd dx fs)) (hl : fs.length ≤ 900) (hno : PySem.W.findIn X.K (.ref C) f = some none) (ry : RelV y u)
    (h : ∀ s', Inv X pins σ (upd H dx (exd dx ((f, y) :: fs))) s' → Q () s') : wpAny (model X.prog X.w) A (setAttr (.ref a) f u) Q E s := by
  obtain ⟨cd, B, nI, iI, tl, hcl, hB, hm, hd⟩ := T.data
  obtain ⟨t1, ho⟩ := exo_at I.hok e
  obtain ⟨mA, hns, rel⟩ := exd_at I.hok ed
  obtain ⟨hp, g, d, t, os⟩ := s
  obtain ⟨oD, _, _, hoD, _, _⟩ := hns.count (within_of rel)
  refine PySem.W.set_plain I.kIn (od := some oD) ⟨ho, rfl, rfl, hoD⟩ T.sa (osa_start hB I.kIn ho rfl hcl hm hno (own_more I.kIn ho hcl hd hns (within_of rel) (by rw [List.length_map]; omega) fun h' tk' k n => ?_))
  refine h _ (I.write (t' := tk') (x := dx) (e := dx) (by rw [ed]; exact True.intro) (.inl rfl) k ?_ (exd_ok n (relO_put ry rel)))
  obtain ⟨o, _, _, q, _⟩ := n
  exact ⟨o, q⟩
end
def tOstG (K : PySem.W.Frag) (f : Str) (to te : TE) : TS := fun D σ H => te σ H fun y H1 => to σ H1 fun x H2 => ∃ a C : Addr, x = .ref a ∧ OexG K C ∧ PySem.W.findIn K (.ref C) f = some none ∧
  ((H2 a = some (exo a C none) ∧ ∀ dx, H2 dx = none → dx ≠ a → D.nx σ (upd (upd H2 dx (exd dx [(f, y)])) a (exo a C (some dx)))) ∨
    ∃ (dx : Addr) (fs : List (Str × V)), H2 a = some (exo a C (some dx)) ∧ H2 dx = some (exd dx fs) ∧ fs.length ≤ 900 ∧ D.nx σ (upd H2 dx (exd dx ((f, y) :: fs))))
section
variable {X : Cx} {o e : Expr} {es : List Expr} {to te : TE} {ta : TA} {f : Str} {p p' p1 p2 pos : Pos}
theorem ps_ostG (ho : PE X o to) (he : PE X e te) (hs : swapsWith e (some (.Attribute o f p')) pos.line X.env = pure false := by rfl) : PS X (.Assign [.Attribute o f p'] e pos) (tOstG X.K f to te) := by
  refine ⟨fun pins s σ H D I h => ?_⟩
  refine plainObj_wpAny_Assign_Attribute (thn (he.run pins s σ H _ I h) fun v s1 ⟨y, H1, I1, r1, q1⟩ => thn (ho.run pins s1 σ H1 _ I1 q1) fun u s2 ⟨x, H2, I2, r2, a, C, ex, T, hno, q⟩ => ?_) hs
  subst ex
  obtain rfl : u = Value.ref a := r2
  rcases q with ⟨ea, q⟩ | ⟨dx, fs, ea, ed, hl, q⟩
  · exact ostG_new T I2 ea hno r1 fun dx s' n ne J => ⟨σ, _, J, q dx n ne⟩
  · exact ostG_old T I2 ea ed hl hno r1 fun s' J => ⟨σ, _, J, q⟩
theorem pmk_oexG {CX : CXT} {x : Str} {C fI : Addr} {k : Nat} {fd : FuncData} {ps : List Str} {sp : Sp} {ds : List Value} {dvs : List V} (T : OexG X.K C) (iC : PySem.W.findIn X.K (.ref C) "__init__" = some (some (.ref fI))) (tI : PySem.W.typeIn X.K (.ref fI) = some (.type "function"))
    (F1 : FnOk X.prog X.w X.K X.mg X.base CX k fI fd ps sp) (hr : Room (k + 1) X.A) (hb : Binds X.K fd ps ds) (hd : Vals dvs ds) (hx : Passes CX X (fun _ _ _ => False)) (hg : Gl X x) (hm : X.mg x = some (.ref C)) (ha : PA X (e :: es) ta)
    (hdb : (x == ("__debug__" : Str)) = false := by decide) (he : starEach (e :: es) X.env = (false, eval e X.env) :: starEach es X.env := by rfl) (hpl : (backTo pos (starEach es X.env)).any (·.1) = false := by rfl) :
    PMk X (.Call (.Name x p) (e :: es) [] pos) (tMkO C sp dvs ta) := fun pins s σ H Q I h => by
  obtain ⟨nm, q, N, bs, bm, sn, sub, ab, col, dd, k0, k1, k2, k3, k5, B, nI, iI, tl, hC, hB, hbm⟩ := T.cls
  refine wpAny_Call_Name_kw (ld_glob I hg hm (PySem.W.callWith_K (h₀ := X.base) I.ok.mod.kin T.kC (thn (ha.run pos pins s σ H _ I h) fun us s1 ⟨vs, H1, I1, rv, hz, q1⟩ => ⟨I1.kIn, ?_⟩) he hpl) hdb)
  obtain ⟨hp, g, dr, tk, os⟩ := s1
  -- the new exception stands behind its tuple of arguments
  generalize hA : hp.objs.size + 1 = a at *
  have big : hp.objs.size ≤ a := by omega
  have grow : ∀ b o, hp.get? b = some o → ((hp.push (PySem.W.kdv_tup us)).push (PySem.HandSPX.excO C hp.objs.size)).get? b = some o := fun b o e => Heap.get?_push_of_some _ (Heap.get?_push_of_some _ e)
  have here : ((hp.push (PySem.W.kdv_tup us)).push (PySem.HandSPX.excO C hp.objs.size)).get? a = some (PySem.HandSPX.excO C hp.objs.size) := by subst hA; heap_get
  have I2 := I1.laid (t' := tk) (o := exo a C none) grow big (exo_ok here)
  have goes := q1 a (I1.hok.fresh big)
  have rel : Vals (V.ref a :: (vs ++ dvs)) (Value.ref a :: (us ++ ds)) := .cons rfl (rv.append hd)
  have few : us.length ≤ sizeLine := by
    have := Paired.length rv
    rw [sizeLine_eq]
    omega
  have many : (Value.ref a :: us ++ ds).length = ps.length := rel.length.symm.trans (F1.len _ _ _ _ goes)
  refine wpAny_call (PySem.HandSPX.call_own hB.facts (over_contains hbm) (I1.kIn _ _ hC) (PySem.W.looks_findIn I1.kIn iC) (fun self => PySem.W.bind_fn I1.kIn self tI) few ?_)
  rw [hA]
  refine codeAny_mono (F1.run _ X.stack _ _ ⟨Value.ref a :: us, []⟩ (Value.ref a :: (us ++ ds)) _ _ (fun _ _ _ => False) (hr.make C us []) (I2.env0.make C us []) (hb _ (Value.ref a :: us) I2.kIn many) rel goes) fun r s' after => ?_
  match r, after with
  | .error er, after => exact hx pins σ _ _ er s' I2 after
  | .ok (.ret u), ⟨v, H2, os2, bare2, un2, hok2, rv2, ev, d, fs, ea, ed, hd1, q2⟩ =>
    subst ev
    exact ⟨rv2, mk_end (raises_own T.exC T.tyC) I1 big grow un2 hok2 os2 bare2 ea ed hd1 q2⟩
end
end DL
namespace DL
open PySem L2 PyProof.Rows
def spEx1 (C : Addr) (f : Str) : Sp := fun vs H Q _ => ∃ a y, vs = [.ref a, y] ∧ H a = some (exo a C none) ∧ ∀ dx, H dx = none → dx ≠ a → Q .non (upd (upd H dx (exd dx [(f, y)])) a (exo a C (some dx)))
def spEx2 (C : Addr) (f g : Str) : Sp := fun vs H Q _ => ∃ a y z, vs = [.ref a, y, z] ∧ H a = some (exo a C none) ∧ ∀ dx, H dx = none → dx ≠ a → Q .non (upd (upd (upd H dx (exd dx [(f, y)])) a (exo a C (some dx))) dx (exd dx [(g, z), (f, y)]))
section
variable {P : Program} {w : World} {K : PySem.W.Frag} {mg : Str → Option Value} {base : Heap}
theorem okExc1 {name qual p f : Str} {params : Arguments} {body : List Stmt} {scope : Scope} {fa C : Addr} {dV kV doc pm cdv ct oc : Value} {an od : Option Addr} {osl : Array (Option Value)} {q1 q2 q3 q4 : Pos}
    (lk : K.lookup fa = some ⟨oc, od, .func (PySem.W.fnOf name qual params body scope dV kV doc pm an cdv ct), osl⟩) (hcd : PySem.W.codeIn K cdv qual = true) (S : FnScope ["self", p] ["self", p] scope) (hb : body = [.Assign [.Attribute (.Name "self" q1) f q2] (.Name p q3) q4]) (T : OexG K C)
    (hno : PySem.W.findIn K (.ref C) f = some none) (hs : ∀ env, swapsWith (.Name p q3) (some (.Attribute (.Name "self" q1) f q2)) q4.line env = pure false := by intro _; rfl) (hp : (p == ("__debug__" : Str)) = false := by decide) (hp2 : (p == ("__classdict__" : Str)) = false := by decide) :
    FnOk P w K mg base CX0 1 fa (PySem.W.fnOf name qual params body scope dV kV doc pm an cdv ct) ["self", p] (spEx1 C f) := by
  refine fn_of lk hcd S (fun vs H Q E h => ?_) (fun A outer s H vs Q E hr h => ?_)
  · obtain ⟨a, y, rfl, _⟩ := h
    rfl
  · obtain ⟨a, y, rfl, ea, k⟩ := h
    subst hb
    have vis : ∀ x ∈ ([("self" : Str), p] : List Str), Vis scope x := fun x hx => (S.par x hx).elim .inl fun z => .inr (.inl z)
    refine ⟨_, pss_one (ps_ostG (pe_var (i := 0) rfl (vis _ (by simp))) (pe_var (i := 1) rfl (vis _ (by simp)) hp hp2) (hs _)), ?_⟩
    exact ⟨y, rfl, .ref a, rfl, a, C, rfl, T, hno, .inl ⟨ea, fun dx n ne => k dx n ne⟩⟩
theorem okExc2 {name qual p p' f g : Str} {params : Arguments} {body : List Stmt} {scope : Scope} {fa C : Addr} {dV kV doc pm cdv ct oc : Value} {an od : Option Addr} {osl : Array (Option Value)} {q1 q2 q3 q4 r1 r2 r3 r4 : Pos}
    (lk : K.lookup fa = some ⟨oc, od, .func (PySem.W.fnOf name qual params body scope dV kV doc pm an cdv ct), osl⟩) (hcd : PySem.W.codeIn K cdv qual = true) (S : FnScope ["self", p, p'] ["self", p, p'] scope)
    (hb : body = [.Assign [.Attribute (.Name "self" q1) f q2] (.Name p q3) q4, .Assign [.Attribute (.Name "self" r1) g r2] (.Name p' r3) r4]) (T : OexG K C)
    (hno : PySem.W.findIn K (.ref C) f = some none) (hno2 : PySem.W.findIn K (.ref C) g = some none) (hs : ∀ env, swapsWith (.Name p q3) (some (.Attribute (.Name "self" q1) f q2)) q4.line env = pure false := by intro _; rfl) (hs2 : ∀ env, swapsWith (.Name p' r3) (some (.Attribute (.Name "self" r1) g r2)) r4.line env = pure false := by intro _; rfl)
    (hp : (p == ("__debug__" : Str)) = false := by decide) (hp2 : (p == ("__classdict__" : Str)) = false := by decide) (hp' : (p' == ("__debug__" : Str)) = false := by decide) (hp2' : (p' == ("__classdict__" : Str)) = false := by decide) :
    FnOk P w K mg base CX0 1 fa (PySem.W.fnOf name qual params body scope dV kV doc pm an cdv ct) ["self", p, p'] (spEx2 C f g) := by
  refine fn_of lk hcd S (fun vs H Q E h => ?_) (fun A outer s H vs Q E hr h => ?_)
  · obtain ⟨a, y, z, rfl, _⟩ := h
    rfl
  · obtain ⟨a, y, z, rfl, ea, k⟩ := h
    subst hb
    have vis : ∀ x ∈ ([("self" : Str), p, p'] : List Str), Vis scope x := fun x hx => (S.par x hx).elim .inl fun z => .inr (.inl z)
    refine ⟨_, pss_cons (ps_ostG (pe_var (i := 0) rfl (vis _ (by simp))) (pe_var (i := 1) rfl (vis _ (by simp)) hp hp2) (hs _)) (pss_one (ps_ostG (pe_var (i := 0) rfl (vis _ (by simp))) (pe_var (i := 2) rfl (vis _ (by simp)) hp' hp2') (hs2 _))), ?_⟩
    refine ⟨y, rfl, .ref a, rfl, a, C, rfl, T, hno, .inl ⟨ea, fun dx n ne => ?_⟩⟩
    exact ⟨z, rfl, .ref a, rfl, a, C, rfl, T, hno2, .inr ⟨dx, _, upd_same, by rw [upd_ne ne, upd_same], by show 1 ≤ 900; decide, k dx n ne⟩⟩
end
structure DefEx1 (P : Program) (w : World) (K : PySem.W.Frag) (mg : Str → Option Value) (base : Heap) (cm : CM) (x : Str) (c : Nat) (f : Str) : Prop where
  ex : ∃ fI fd ps, mg x = some (.ref (cm c)) ∧ OexG K (cm c) ∧ PySem.W.findIn K (.ref (cm c)) "__init__" = some (some (.ref fI)) ∧ PySem.W.typeIn K (.ref fI) = some (.type "function") ∧ Binds K fd ps [] ∧ FnOk P w K mg base CX0 1 fI fd ps (spEx1 (cm c) f)
structure DefEx2 (P : Program) (w : World) (K : PySem.W.Frag) (mg : Str → Option Value) (base : Heap) (cm : CM) (x : Str) (c : Nat) (f g : Str) : Prop where
  ex : ∃ fI fd ps, mg x = some (.ref (cm c)) ∧ OexG K (cm c) ∧ PySem.W.findIn K (.ref (cm c)) "__init__" = some (some (.ref fI)) ∧ PySem.W.typeIn K (.ref fI) = some (.type "function") ∧ Binds K fd ps [] ∧ FnOk P w K mg base CX0 1 fI fd ps (spEx2 (cm c) f g)
def excF (c : Nat) (fs : List Str) (ds : List D) : Option D := if ds.length = fs.length then some (.exc c fs.reverse ds.reverse) else none
def sRaise (c : Nat) (fs : List Str) (cs : M (List D)) : M Fl := bnd cs fun ds => match excF c fs ds with
  | some e => throw' e
  | none => fail
section
variable {T : Tx} {e : Expr} {es : List Expr} {cs : M (List D)} {pos p pos2 : Pos} {x f g : Str} {k : Nat}
theorem xd_eq1 {H : Hp} {a d : Addr} {o1 o2 o3 o4 : HO} (hn : H a = none) (hd : d ≠ a) : upd (L2.del (upd (upd (upd H a o1) d o2) a o3) a) d o4 = upd H d o4 := by
  funext b
  by_cases hb : b = d
  · subst hb; rw [upd_same, upd_same]
  · rw [upd_ne hb, upd_ne hb]
    by_cases ha : b = a
    · subst ha; rw [L2.del_same, hn]
    · rw [L2.del_ne ha, upd_ne ha, upd_ne hb, upd_ne ha]
theorem xd_eq2 {H : Hp} {a d : Addr} {o1 o2 o3 o4 o5 : HO} (hn : H a = none) (hd : d ≠ a) : upd (L2.del (upd (upd (upd (upd H a o1) d o2) a o3) d o5) a) d o4 = upd H d o4 := by
  funext b
  by_cases hb : b = d
  · subst hb; rw [upd_same, upd_same]
  · rw [upd_ne hb, upd_ne hb]
    by_cases ha : b = a
    · subst ha; rw [L2.del_same, hn]
    · rw [L2.del_ne ha, upd_ne hb, upd_ne ha, upd_ne hb, upd_ne ha]
theorem raise_end {B F0 F1 : Hp} {Γ1 : List Sl} {σ : L2.St} {H1 : Hp} {c : Nat} {ws : List (Str × V)} {ds : List D} {dx : Addr} {P : Fl → Hp → List Sl → L2.St → Hp → Prop} {fs : List Str} (hw : ws.map (·.1) = fs) (ia : IsAll T.X.K T.cm F1 (ws.map (·.2)) ds) (n : H1 dx = none)
    (r : RunS T B F0 (throw' (.exc c fs ds)) F1 Γ1 σ H1 P) : T.W (.ref (T.cm c)) (some dx) σ (upd H1 dx (.xd ws)) := by
  obtain ⟨S, r⟩ := r
  have t : Step T.cm F1 H1 (upd F1 dx (.xd ws)) (upd H1 dx (.xd ws)) := .new S.fh n
  exact r _ _ σ _ _ t.ff (S.step t) ⟨rfl, .inl ⟨dx, ws, rfl, upd_same, hw, ia.mono t.ff _⟩⟩
theorem rs_raise1 (c : Nat) (G : DefEx1 T.X.prog T.X.w T.X.K T.X.mg T.X.base T.cm x c f) (ck : Cok T (k + 2)) (ha : RA T [e] cs) (hg : Gl T.X x := by rfl) (hdb : (x == ("__debug__" : Str)) = false := by decide)
    (he : starEach [e] T.X.env = (false, eval e T.X.env) :: starEach [] T.X.env := by rfl) (hpl : (backTo pos (starEach [] T.X.env)).any (·.1) = false := by rfl) : RS T (.Raise (some (.Call (.Name x p) [e] [] pos)) none pos2) (sRaise c [f] cs) := fun B F0 => by
  obtain ⟨fI, fd, ps, hm, hC, iC, tI, hb, F⟩ := G.ex
  refine (ps_raise ck.calm ck.tk (pmk_oexG (k := 1) (dvs := []) hC iC tI F (ck.room.mono (by omega)) hb .nil (fun _ _ _ _ _ _ _ h => h.elim) hg hm (ha B F0) hdb he hpl)).weak fun D σ H ⟨F1, Γ1, r⟩ => ⟨F1, Γ1, r.bnd.run.mono fun ds F2 Γ2 H2 q2 S2 r2 vs hvs => ?_⟩
  match ds, hvs, r2 with
  | [d], .cons (v := v) i .nil, r2 =>
    refine ⟨by simp, fun a na => ⟨a, v, rfl, upd_same, fun dx n ne => ⟨rfl, dx, _, upd_same, by rw [upd_ne ne, upd_same], by rw [upd_ne ne] at n; exact n, ?_⟩⟩⟩
    rw [xd_eq1 na ne]
    rw [upd_ne ne] at n
    exact raise_end rfl (.cons i .nil) n r2
  | [], hvs, r2 => exact r2.2.elim
  | d1 :: d2 :: dr, hvs, r2 =>
    have : excF c [f] (d1 :: d2 :: dr) = none := by simp [excF]
    simp only [this] at r2
    exact r2.2.elim
theorem rs_raise2 (c : Nat) {e2 : Expr} (G : DefEx2 T.X.prog T.X.w T.X.K T.X.mg T.X.base T.cm x c f g) (ck : Cok T (k + 2)) (ha : RA T [e, e2] cs) (hg : Gl T.X x := by rfl) (hdb : (x == ("__debug__" : Str)) = false := by decide)
    (he : starEach [e, e2] T.X.env = (false, eval e T.X.env) :: starEach [e2] T.X.env := by rfl) (hpl : (backTo pos (starEach [e2] T.X.env)).any (·.1) = false := by rfl) : RS T (.Raise (some (.Call (.Name x p) [e, e2] [] pos)) none pos2) (sRaise c [f, g] cs) := fun B F0 => by
  obtain ⟨fI, fd, ps, hm, hC, iC, tI, hb, F⟩ := G.ex
  refine (ps_raise ck.calm ck.tk (pmk_oexG (k := 1) (dvs := []) hC iC tI F (ck.room.mono (by omega)) hb .nil (fun _ _ _ _ _ _ _ h => h.elim) hg hm (ha B F0) hdb he hpl)).weak fun D σ H ⟨F1, Γ1, r⟩ => ⟨F1, Γ1, r.bnd.run.mono fun ds F2 Γ2 H2 q2 S2 r2 vs hvs => ?_⟩
  match ds, hvs, r2 with
  | [d, d2], .cons (v := v) i (.cons (v := v2) i2 .nil), r2 =>
    refine ⟨by simp, fun a na => ⟨a, v, v2, rfl, upd_same, fun dx n ne => ⟨rfl, dx, _, by rw [upd_ne ne.symm, upd_same], upd_same, by rw [upd_ne ne] at n; exact n, ?_⟩⟩⟩
    rw [xd_eq2 na ne]
    rw [upd_ne ne] at n
    exact raise_end rfl (.cons i2 (.cons i .nil)) n r2
  | [], hvs, r2 => exact r2.2.elim
  | [d1], hvs, r2 =>
    have : excF c [f, g] [d1] = none := by simp [excF]
    simp only [this] at r2
    exact r2.2.elim
  | d1 :: d2 :: d3 :: dr, hvs, r2 =>
    have : excF c [f, g] (d1 :: d2 :: d3 :: dr) = none := by simp [excF]
    simp only [this] at r2
    exact r2.2.elim
end
end DL
namespace DL
open PySem L2 PyProof.Rows
theorem track {X : Cx} {pins : List (Addr × Obj)} {σ : L2.St} {H : Hp} {s : Shared} {a C : Addr} {oe : Obj} {vs : Array Value} {dx : Option Addr} (I : Inv X ((a, oe) :: pins) σ H s) (hz : Zc (.ref C) dx oe) (hd : oe.data = .fields vs)
    (n0 : X.s_0.heap.get? a = none) (np : ∀ p ∈ X.pn ++ pins, p.1 ≠ a) : Inv X pins σ (upd H a (ExcO a C dx)) s := by
  obtain ⟨ha, na, nL, nF, nc⟩ := I.pin (a, oe) (List.mem_append_right _ List.mem_cons_self)
  refine ⟨I.ok, I.os, I.bare, ⟨I.base.keep, I.base.slot, fun b o e n hx => ?_, I.base.there, fun b xs e => ?_, fun b o xs e => ?_, fun b ps e => ?_⟩, I.loc, I.cell, ?_, fun x c e => ?_, fun p hp => ?_, fun b o e => ?_, I.len⟩
  · rw [upd_ne (fun z => by subst z; rw [n0] at e; cases e)]; exact I.base.free b o e n hx
  · have q := I.base.tups b xs e
    rw [upd_ne (ne_of_none q na)]; exact q
  · have q := I.base.frzs b o xs e
    rw [upd_ne (ne_of_none q na)]; exact q
  · obtain ⟨m, q⟩ := I.base.tbls b ps e
    exact ⟨m, by rw [upd_ne (ne_of_none q na)]; exact q⟩
  · rw [upd_ne (Ne.symm nL)]; exact I.free
  · have hne : c ≠ a := fun z => by
      subst z
      obtain ⟨v, o, e1, e2⟩ := I.cell x c e
      rw [ha] at e1; cases e1
      first
        | exact nc _ e2
        | (obtain ⟨_, e2⟩ := e2; exact nc _ e2)
        | (obtain ⟨e2, _⟩ := e2; exact nc _ e2)
    rw [upd_ne hne]; exact I.freeC x c e
  · have hp' : p ∈ X.pn ++ ((a, oe) :: pins) := by
      rcases List.mem_append.mp hp with h | h
      · exact List.mem_append_left _ h
      · exact List.mem_append_right _ (List.mem_cons_of_mem _ h)
    obtain ⟨h1, h2, h3⟩ := I.pin p hp'
    exact ⟨h1, by rw [upd_ne (np p hp)]; exact h2, h3⟩
  · by_cases hb : b = a
    · subst hb
      rw [upd_same] at e; cases e
      exact ⟨⟨oe, vs, ha, hz.1, hz.2, hd⟩, ⟨oe, ha⟩, fun h1 h2 ⟨o, vs, k1, k2⟩ k => ⟨o, vs, k _ k1, k2⟩⟩
    · rw [upd_ne hb] at e
      exact (I.hok b o e).stay (fun c v _ q => q) (fun c q => by rw [upd_ne (ne_of_none q na)]; exact q) fun c xs q => by rw [upd_ne (ne_of_none q na)]; exact q
def wAsK (K : PySem.W.Frag) (c : Value) (i : Nat) (ts : Addr → Value → Option Addr → TS) (Wout : WX) (D : Ends) : WX := fun cls d σ H =>
  ∃ b C, cls = .ref C ∧ PySem.W.exmOne K cls c = some b ∧ (b = true → ∀ a, H a = none → ts a cls d { nx := fun σ' H' => D.nx (σ'.set i none) (upd H' a (ExcO a C d)), rt := fun _ _ => False } (σ.set i (some (.ref a))) H) ∧ (b = false → Wout cls d σ H)
section
variable {X : Cx} {x n : Str} {c : Value} {i : Nat} {body suite : List Stmt} {b₀ : Stmt} {np pos pos' : Pos} {tb : WX → TS} {ts : Addr → Value → Option Addr → TS} {Wout : WX}
theorem ps_try_keep (hs : X.stack = X.env :: X.outer) (hf : X.env.frame = some X.env.locals) (hex : X.ex = []) (hN : X.N.Nodup) (hi : X.N[i]? = some n) (hln : X.env.kindOf n = some .local) (hc : Names X x c) (tk : Takes X Wout)
    (hb : ∀ (W : WX) (pn : List (Addr × Obj)) (xe : Value → Shared → Prop), Takes (X.tr pn xe) W → PassesOwn (model X.prog X.w) X.A X.env xe → PSs (X.tr pn xe) body (tb W))
    (hsu : ∀ (a : Addr) (oe : Obj) (cls : Value) (d : Option Addr) (pn : List (Addr × Obj)), Zc cls d oe → (∃ vs, oe.data = .fields vs) → PSs (X.suite a ((a, oe) :: pn)) (b₀ :: suite) (ts a cls d)) :
    PS X (.Try body [.ExceptHandler (some (.Name x np)) (some n) (b₀ :: suite) pos'] [] [] pos) (fun D σ H => tb (wAsK X.K c i ts Wout D) D σ H) := by
  refine ⟨fun pins s σ H D I h => ?_⟩
  have ok := I.ok
  have hfr : X.A.frames = some (X.env :: X.outer) := by rw [ok.frames, hs]
  have hloc : Loc X.env.scope n := .inl hln
  refine wpAny_Try_except ?_
  refine wpAny_mono ((hb (wAsK X.K c i ts Wout D) (X.pn ++ pins) (fun e s₁ => wpAny (model X.prog X.w) X.A (noteFrame e X.env) (fun _ s₂ => wpAny (model X.prog X.w) X.A (setFlight e none) (fun _ s₃ =>
    wpAny (model X.prog X.w) X.A (handleBy e X.env [.ExceptHandler (some (.Name x np)) (some n) (b₀ :: suite) pos']) (SP X pins D) X.xe s₃) X.xe s₂) X.xe s₁) (fun u s' xx => ?_) PassesOwn.looking).run [] s σ H D (I.toTry _) h) (fun f s1 hsp => ?_) (fun e s1 he => he)
  · obtain ⟨a, B, sI, pins', σ', H', cls, d, rfl, J', nb, up, sky, na, os, ag, b, C, hcls, hb1, hyes, hno⟩ := xx
    have J : Inv X pins σ' H' sI := J'.ofTry ok
    have sky' : Sky B (X.env :: X.outer) a (Zc cls d) X.env.locals s'.heap := by rw [← hs]; exact sky
    have nB : B.get? a = none := by
      rcases sky' with ⟨_, hn, _⟩ | fl | hh
      · exact hn
      · exact fl.2.1
      · exact hh.2.1
    show wpAny (model X.prog X.w) X.A (noteFrame (.ref a) X.env) _ _ _
    refine Sky.land Zc.steady hfr hf sky' fun h3 fl3 up3 => ?_
    have J3 : Inv X pins σ' H' { s' with heap := h3 } := J.landed nb fl3.1 (up.trans up3) os ag
    obtain ⟨oe3, vs3, he3, hz3, hd3⟩ := fl3.there
    have notFr : ∀ {h : Heap} {o : Obj} {vs : Array Value}, h.FunFrames B (X.env :: X.outer) → h.get? a = some o → o.data = .fields vs → a ∉ frs (X.env :: X.outer) := fun {h o vs} ff e dd hm => by
      obtain ⟨_, o', e', hnf⟩ := ff.mem hm
      rw [e] at e'; cases e'
      exact hnf _ dd
    have nfr := notFr fl3.2.2.1 he3 hd3
    have nL : a ≠ X.env.locals := fun z => nfr (List.mem_filterMap.mpr ⟨X.env, List.mem_cons_self, by rw [hf, z]⟩)
    have nF : a ∉ X.fs := fun hm => by
      obtain ⟨e, he, q⟩ := List.mem_filterMap.mp hm
      exact nfr (List.mem_filterMap.mpr ⟨e, List.mem_cons_of_mem _ he, q⟩)
    have nsI : sI.heap.get? a = none := by
      cases z : sI.heap.get? a with
      | none => rfl
      | some o =>
        have := nb a o z (by rw [hs]; exact nfr)
        rw [nB] at this; cases this
    have n0 : X.s_0.heap.get? a = none := by
      cases z : X.s_0.heap.get? a with
      | none => rfl
      | some o =>
        obtain ⟨o', e'⟩ := J.base.there a o z (by rw [hex]; simp)
        rw [nsI] at e'; cases e'
    have npn : ∀ p ∈ X.pn ++ pins, p.1 ≠ a := fun p hp z => by
      have := (J.pin p hp).1
      rw [z, nsI] at this; cases this
    have S3 := J3.suite he3 hd3 na nL nF
    refine wpAny_handleBy_cons (codeAny_handlers_test ?_) (by intro q; cases q)
    have LT : PySem.W.Looks (model X.prog X.w) h3 (typeOf (.ref a)) cls := fun A Q E s k q => wpAny_typeOf_ref (k _ _ he3) (by rw [hz3.1]; exact q)
    have LM := PySem.W.exm_one (M := model X.prog X.w) (J3.kIn) LT hb1
    have test : ∀ {Q : Value → Shared → Prop} {E : Value → Shared → Prop}, Q c { s' with heap := h3 } → wpAny (model X.prog X.w) (X.A.mark (some (.ref a))) (eval (.Name x np) X.env) Q E { s' with heap := h3 } := fun {Q E} q => by
      obtain ⟨hg, hdbg, hm | ⟨hm, hv, hnn⟩⟩ := hc
      · exact ld_glob (X := X.suite a ((a, oe3) :: (X.pn ++ pins))) S3 hg hm q hdbg
      · exact ld_blt (X := X.suite a ((a, oe3) :: (X.pn ++ pins))) S3 hg hm hv q hnn hdbg
    refine test (LM.here ?_)
    cases b with
    | true =>
      refine codeAny_handlers_suite_as ?_
      refine HandSPX.lands_againZ fl3 fun h4 fl4 up4 => ?_
      have J4 : Inv X pins σ' H' { s' with heap := h4 } := J.landed nb fl4.1 ((up.trans up3).trans up4) os ag
      obtain ⟨oe4, vs4, he4, hz4, hd4⟩ := fl4.there
      have S4 := J4.suite he4 hd4 na nL nF
      refine store_ok (X := X.suite a ((a, oe4) :: (X.pn ++ pins))) (v := .ref a) S4 hN hi hloc rfl (fun s5 S5 => ?_) (.inr hln)
      refine wpAny_mono ((hsu a oe4 cls d (X.pn ++ pins) hz4 ⟨_, hd4⟩).run [] s5 _ H' _ S5 (hyes rfl a na)) (fun f s6 hsp => ?_) (fun _ _ z => False.elim z)
      cases f with
      | next =>
        obtain ⟨σ6, H6, S6, q6⟩ := hsp
        have J6 : Inv X ((a, oe4) :: pins) σ6 H6 s6 := ⟨ok, S6.os, S6.bare, S6.base, S6.loc, S6.cell, S6.free, S6.freeC, fun p hp => S6.pin p (by
          rw [List.append_nil]
          rcases List.mem_append.mp hp with h | h
          · exact List.mem_cons_of_mem _ (List.mem_append_left _ h)
          · rcases List.mem_cons.mp h with rfl | h
            · exact List.mem_cons_self
            · exact List.mem_cons_of_mem _ (List.mem_append_right _ h)), S6.hok, S6.len⟩
        refine gone_ok J6 hN hi hln fun s7 J7 => ⟨_, _, track J7 (by rw [← hcls]; exact hz4) hd4 n0 npn, q6⟩
      | brk =>
        obtain ⟨σ6, H6, S6, q6⟩ := hsp
        exact q6.elim
      | cont =>
        obtain ⟨σ6, H6, S6, q6⟩ := hsp
        exact q6.elim
      | ret u =>
        obtain ⟨v6, σ6, H6, S6, r6, q6⟩ := hsp
        exact q6.elim
    | false =>
      show wpAny _ X.A (handleBy (.ref a) X.env []) _ _ _
      refine wpAny_handleBy_nil ?_
      obtain ⟨k1, k2, k3, oe, vs, T, oT, ts', he, hz, hd, h1, hr⟩ := id fl3
      unfold PySem.passOn
      refine wpAny_bind (wpAny_field he hd h1 ?_)
      rw [if_neg (show ¬ ((Value.ref T == Value.none) = true) from by simp)]
      have fin : wpAny (model X.prog X.w) X.A (setFlight (.ref a) X.env.frame) (fun _ s4 => wpAny (model X.prog X.w) X.A (throw (.ref a) : Sem Flow) (SP X pins D) X.xe s4) X.xe { s' with heap := h3 } := by
        rw [hf]
        refine HandSPX.setFlight_upZ fl3 fun h4 hh4 up4 => wpAny_throw (tk _ _ ?_)
        exact ⟨a, B, sI, pins, σ', H', cls, d, rfl, J, nb, (up.trans up3).trans up4, .inr (.inr (by rw [hs]; exact hh4)), na, os, ag, hno rfl⟩
      first
        | exact wpAny_bind (wpAny_pure (wpAny_bind fin))
        | exact wpAny_bind fin
  · cases f with
    | next => obtain ⟨σ', H', J', q⟩ := hsp; exact wpAny_execs_nil ⟨σ', H', J'.ofTry ok, q⟩
    | brk => obtain ⟨σ', H', J', q⟩ := hsp; exact ⟨σ', H', J'.ofTry ok, q⟩
    | cont => obtain ⟨σ', H', J', q⟩ := hsp; exact ⟨σ', H', J'.ofTry ok, q⟩
    | ret u => obtain ⟨v, σ', H', J', r, q⟩ := hsp; exact ⟨v, σ', H', J'.ofTry ok, r, q⟩
end
abbrev Tx.tr (T : Tx) (W : WX) (pn : List (Addr × Obj)) (xe : Value → Shared → Prop) : Tx := { X := T.X.tr pn xe, cm := T.cm, W := W, io := T.io }
abbrev Mt := Nat → Option Bool
def sTryK (M0 : Mt) (i j : Nat) (b : M Fl) : M Fl := fun Γ => match b Γ with
  | some (.error (.exc c fs vs), Γ') => match M0 c with
    | some true => if i < Γ'.length then some (.ok .nx, (Γ'.set j (.dat (.exc c fs vs))).set i .un) else none
    | some false => some (.error (.exc c fs vs), Γ')
    | none => none
  | r => r
section
variable {T : Tx} {x n y : Str} {body : List Stmt} {np pos pos' p1 p2 p3 : Pos} {cb : M Fl} {k : Nat}
theorem rs_tryK (i j : Nat) (c0 : Value) (M0 : Mt) (ck : Cok T k) (hM : ∀ c b, M0 c = some b → PySem.W.exmOne T.X.K (.ref (T.cm c)) c0 = some b) (hc : Names T.X x c0) (hb : ∀ (W : WX) (pn : List (Addr × Obj)) (xe : Value → Shared → Prop), Cok (T.tr W pn xe) k → RSs (T.tr W pn xe) body cb)
    (hs : T.X.stack = T.X.env :: T.X.outer := by rfl) (hf : T.X.env.frame = some T.X.env.locals := by rfl) (hex : T.X.ex = [] := by rfl) (hi : T.X.N[i]? = some n := by rfl) (hj : T.X.N[j]? = some y := by rfl) (hln : T.X.env.kindOf n = some .local := by rfl) (hly : Loc T.X.env.scope y := by first | exact Or.inl rfl | exact Or.inr rfl)
    (hij : i ≠ j := by decide) (hio : NoIo T i := by first | exact Or.inl rfl | exact Or.inr (by decide)) (hjo : NoIo T j := by first | exact Or.inl rfl | exact Or.inr (by decide)) (hd : (n == ("__debug__" : Str)) = false := by decide) (hcd : (n == ("__classdict__" : Str)) = false := by decide)
    (hsw : swapsWith (.Name n p2) (some (.Name y p1)) p3.line T.X.env = pure false := by rfl) (hfy : T.X.fn y = true ∨ T.X.env.scope.names.lookup y = some .local := by first | exact .inl rfl | exact .inr rfl | assumption) :
    RS T (.Try body [.ExceptHandler (some (.Name x np)) (some n) [.Assign [.Name y p1] (.Name n p2) p3] pos'] [] [] pos) (sTryK M0 i j cb) := fun B F0 => by
  have main := ps_try_keep (X := T.X) (tb := fun W => fun D σ H => ∃ pn xe, tSt (T.tr W pn xe) B F0 cb D σ H) (ts := fun _ _ _ => tAsg (tVar i) (gName j)) (np := np) (pos := pos) (pos' := pos') hs hf hex ck.nd hi hln hc ck.tk
    (fun W pn xe tk hp => ⟨fun pins s σ H D I ⟨_, _, q⟩ => (hb W pn xe ⟨ck.room, ck.grd, ck.calm, ck.nd, tk, hp, ck.wc⟩ B F0).run pins s σ H D I q⟩)
    (fun a oe cls d pn hz hv => pss_one (ps_set ck.nd hj hly (pe_var hi (Or.inl hln) hd hcd) hsw hfy))
  refine main.weak fun D σ H ⟨F, Γ, S, r⟩ => ⟨[], fun _ _ => False, F, Γ, S, ?_⟩
  unfold sTryK at r
  rcases e : cb Γ with _ | ⟨x0 | f, Γ'⟩
  · simp only [e] at r
  · simp only [e] at r
    intro F' H' σ' cls dx q S' ie
    cases x0 with
    | exc c fs vs =>
      simp only at r
      obtain ⟨rfl, hx⟩ := ie
      rcases eM : M0 c with _ | b
      · simp only [eM] at r
      · refine ⟨b, T.cm c, rfl, hM c b eM, fun hb a na => ?_, fun hb => ?_⟩
        · subst hb
          simp only [eM] at r
          by_cases hlen : i < Γ'.length
          · rw [if_pos hlen] at r
            have hlen' : i < σ'.length := by rw [← S'.len]; exact hlen
            refine ⟨.ref a, List.getElem?_set_self hlen', ?_⟩
            have S1 : T.Sat B F0 (upd F' a (ExcO a (T.cm c) dx)) Γ' σ' (upd H' a (ExcO a (T.cm c) dx)) := S'.step (.new S'.fh na)
            have q1 : Same F' (upd F' a (ExcO a (T.cm c) dx)) := .up (S'.fh.free na)
            have ia : T.Is (upd F' a (ExcO a (T.cm c) dx)) (.ref a) (.exc c fs vs) := by
              rcases hx with ⟨d, ws, rfl, h1, h2, h3⟩ | ⟨rfl, rfl, rfl⟩
              · exact .exc upd_same (q1 _ _ h1) h2 (h3.mono q1 _)
              · exact .exc0 upd_same
            have S2 := ((S1.set hio ia).set hjo ia).wipe1 hio
            have eΓ : (((Γ'.set i (.dat (.exc c fs vs))).set j (.dat (.exc c fs vs))).set i .un) = (Γ'.set j (.dat (.exc c fs vs))).set i .un := by
              rw [List.set_comm _ _ hij, List.set_set]
            rw [eΓ] at S2
            exact r _ _ _ (q.trans q1) S2
          · rw [if_neg hlen] at r; exact r.elim
        · subst hb
          simp only [eM] at r
          exact r F' H' σ' _ dx q S' ⟨rfl, hx⟩
    | _ => exact ie.elim
  · simp only [e] at r
    exact r
end
def excFld (c : Nat) (f : Str) : D → Option Rf
  | .exc c' fs vs => if c' = c then (lookD fs vs f).map .dat else none
  | _ => none
end DL
namespace DL
open PySem PySem.Spec L2 PyProof.Rows
theorem ints_is {K : PySem.W.Frag} {cm : CM} {F : Hp} : ∀ ns : List Int, IsAll K cm F (ns.map V.int) (ns.map D.int)
  | [] => .nil
  | n :: ns => .cons (.int n) (ints_is ns)
structure TabTop (K : PySem.W.Frag) (h : Heap) (cs : List (Addr × Addr)) : Prop where
  at_ : ∀ p ∈ cs, h.get? p.2 = some { cls := .none, data := .fields #[] }
  nk : ∀ p ∈ cs, K.lookup p.2 = none
  hd : ∀ p ∈ cs, PySem.W.CodeHd h p.1 p.2
structure Lone (K : PySem.W.Frag) (F H : Hp) (a : Addr) (xs : List V) (cs : List (Addr × Addr)) : Prop where
  sq : SqL K F a xs
  fh : Same F H
  nf : ∀ b o, F b = some o → b = a ∧ K.lookup b = none ∧ ∃ o', o = .frz o' (.lst xs)
  hh : ∀ b o, H b = some o → F b = some o ∨ (b ∈ cs.map (·.2) ∧ o = .tbl #[])
  tb : ∀ b ∈ cs.map (·.2), H b = some (.tbl #[])
theorem Lone.tabs {K : PySem.W.Frag} {cm : CM} {F H : Hp} {a : Addr} {xs : List V} {cs : List (Addr × Addr)} (l : Lone K F H a xs cs) (e : cm.tabs.map (·.1) = cs.map (·.2)) : TabsF cm F H where
  all := fun b ps h => by
    rcases l.hh b _ h with z | ⟨z, _⟩
    · obtain ⟨_, _, o', z⟩ := l.nf b _ z; cases z
    · rw [← e] at z
      obtain ⟨p, hp, rfl⟩ := List.mem_map.mp z
      exact ⟨p.2, hp⟩
  nof := fun b o h => by obtain ⟨_, _, o', rfl⟩ := l.nf b o h; rfl
  tab := fun p hp => ⟨#[], l.tb p.1 (by rw [← e]; exact List.mem_map_of_mem hp), True.intro, fun pos cv h => by
    have z : PySem.codeAmong pos [] = some cv := h
    simp [PySem.codeAmong] at z⟩
theorem lone_of {P : Program} {w : World} {K : PySem.W.Frag} {h : Heap} {a : Addr} {vs : List Value} {ns : List Int} {cs : List (Addr × Addr)} (KX : K.In h) (ha : h.get? a = some { cls := .type "list", data := .seq vs.toArray }) (hi : IntsAre vs ns) (hl : ns.length ≤ sizeLine) (T : TabTop K h cs) :
    ∃ F H : Hp, Lone K F H a (ns.map V.int) cs ∧ HOk P w H h := by
  have rv := vals_ints hi
  have isT : ∀ b : Addr, b ∈ cs.map (·.2) → h.get? b = some { cls := .none, data := .fields #[] } := fun b hb => by
    obtain ⟨p, hp, rfl⟩ := List.mem_map.mp hb
    exact T.at_ p hp
  have aT : a ∉ cs.map (·.2) := fun z => by
    have q := isT a z
    rw [ha] at q
    injection q with q
    injection q with _ _ q
    cases q
  have mk : ∀ F : Hp, SqL K F a (ns.map V.int) → (∀ b o, F b = some o → b = a ∧ K.lookup b = none ∧ ∃ o', o = .frz o' (.lst (ns.map V.int))) → HOk P w F h → ∃ F H : Hp, Lone K F H a (ns.map V.int) cs ∧ HOk P w H h := fun F sq nf ok => by
    refine ⟨F, fun b => if b ∈ cs.map (·.2) then some (.tbl #[]) else F b, ⟨sq, fun b o e => ?_, nf, fun b o e => ?_, fun b hb => if_pos hb⟩, fun b o e => ?_⟩
    · show (if _ then _ else _) = _
      rw [if_neg (fun z => aT (by rw [← (nf b o e).1]; exact z))]; exact e
    · have e : (if b ∈ cs.map (·.2) then some (.tbl #[]) else F b) = some o := e
      by_cases hb : b ∈ cs.map (·.2)
      · rw [if_pos hb] at e; cases e; exact .inr ⟨hb, rfl⟩
      · rw [if_neg hb] at e; exact .inl e
    · have e : (if b ∈ cs.map (·.2) then some (.tbl #[]) else F b) = some o := e
      by_cases hb : b ∈ cs.map (·.2)
      · rw [if_pos hb] at e; cases e; exact isT b hb
      · rw [if_neg hb] at e
        obtain ⟨_, _, o', rfl⟩ := nf b o e
        exact ok b _ e
  cases hk : K.lookup a with
  | some o =>
    have e := KX a o hk
    rw [ha] at e; cases e
    exact mk (fun _ => none) (.inr ⟨_, vs.toArray, _, hk, rfl, rfl, rfl, by rw [List.size_toArray, hi.length]; exact hl, by simpa using rv⟩) (fun b o z => by cases z) fun b u z => by cases z
  | none =>
    let o : Obj := { cls := .type "list", data := .seq vs.toArray }
    refine mk (upd (fun _ => none) a (.frz o (.lst (ns.map V.int)))) (.inl (.inr ⟨o, upd_same⟩)) (fun b u z => ?_) fun b u z => ?_
    · by_cases hb : b = a
      · subst hb; rw [upd_same] at z; cases z; exact ⟨rfl, hk, o, rfl⟩
      · rw [upd_ne hb] at z; cases z
    · by_cases hb : b = a
      · subst hb; rw [upd_same] at z; cases z
        exact ⟨ha, by rw [List.length_map]; exact hl, vs, _, rv, ha⟩
      · rw [upd_ne hb] at z; cases z
theorem end_call {P : Program} {w : World} {K : PySem.W.Frag} {mg mb : Str → Option Value} {k : Nat} {fa a : Addr} {fd : FuncData} {x : Str} {sp : Sp} {s₁ : Shared} {vs : List Value} {ns : List Int} {cs : List (Addr × Addr)}
    (KX : K.In s₁.heap) (hns : s₁.heap.Ns mainGlobals mg) (hb : s₁.heap.Ns builtinsNs mb) (hbb : ∀ x : Str, x ≠ "__name__" → mb x = bootBuiltins x) (hlim : s₁.heap.NoLimit) (hg : s₁.gens = #[])
    (hbm : ∃ (bm : Addr) (ob : Obj), mg "__builtins__" = some (.ref bm) ∧ bm ≠ builtinsNs ∧ s₁.heap.get? bm = some ob ∧ ob.cls = .type "module" ∧ ob.dict = some builtinsNs ∧ ob.data = .plain) (T : TabTop K s₁.heap cs)
    (ha : s₁.heap.get? a = some { cls := .type "list", data := .seq vs.toArray }) (hi : IntsAre vs ns) (hl : ns.length ≤ sizeLine) (hr : Room k callerA)
    (F : ∀ base : Heap, K.In base → base.Ns mainGlobals mg → (∀ p ∈ cs, LamX.TabB base mg p.1 p.2) → FnG P w K mg base k fa fd [x] sp) (hbind : ∀ (s : Shared) (u : Value), BindsTo s fd ⟨[u], []⟩ [(x, u)])
    (hsp : ∀ F H : Hp, Lone K F H a (ns.map V.int) cs → sp [.ref a] H (fun v _ => v = .bl true) fun _ _ _ => False) :
    codeAny (model P w) callerA (.call (.ref fa) ⟨[.ref a], []⟩) (fun r s' => r = .ok (.ret (.bool true)) ∧ OldK s₁.heap s'.heap ∧ s'.os = s₁.os ∧ AllBare s'.gens) s₁ := by
  obtain ⟨F0, H, L, hok⟩ := lone_of (P := P) (w := w) KX ha hi hl T
  have isT : ∀ b : Addr, b ∈ cs.map (·.2) → s₁.heap.get? b = some { cls := .none, data := .fields #[] } := fun b hb => by
    obtain ⟨p, hp, rfl⟩ := List.mem_map.mp hb
    exact T.at_ p hp
  have seen : ∀ {b : Addr} {o : Obj}, s₁.heap.get? b = some o → H b = none → (hidT s₁.heap H).get? b = some o := fun e n => hidT_get e n
  -- what is no list and no empty record is not tracked
  have notA : ∀ {b : Addr} {o : Obj}, s₁.heap.get? b = some o → (∀ vs n, o.data ≠ .seq vs n) → o.data ≠ .fields #[] → H b = none := fun {b o} e h1 h2 => by
    cases q : H b with
    | none => rfl
    | some u =>
      rcases L.hh b u q with z | ⟨z, _⟩
      · obtain ⟨rfl, _⟩ := L.nf b u z
        rw [ha] at e; cases e
        exact absurd rfl (h1 _ _)
      · rw [isT b z] at e; cases e
        exact absurd rfl h2
  have notD : ∀ {b : Addr} {o : Obj} {es : Array DictEntry} {ep : Nat}, s₁.heap.get? b = some o → o.data = .dict es ep → H b = none := fun {b o es ep} e d =>
    notA e (fun vs n z => by rw [d] at z; cases z) fun z => by rw [d] at z; cases z
  have nsK : ∀ {b : Addr} {m : Str → Option Value}, s₁.heap.Ns b m → (hidT s₁.heap H).Ns b m := fun {b m} ⟨o, es, ep, e, d, r⟩ => ⟨o, es, ep, seen e (notD e d), d, r⟩
  have hKb : K.In (hidT s₁.heap H) := fun b o e => seen (KX b o e) (by
    cases q : H b with
    | none => rfl
    | some u =>
      rcases L.hh b u q with z | ⟨z, _⟩
      · rw [(L.nf b u z).2.1] at e; cases e
      · obtain ⟨p, hp, rfl⟩ := List.mem_map.mp z
        rw [T.nk p hp] at e; cases e)
  have hM : Mod K mg (hidT s₁.heap H) := ⟨hKb, nsK hns, ⟨mb, nsK hb, hbb⟩, let ⟨mc, h1, h2⟩ := hlim; ⟨mc, nsK h1, h2⟩⟩
  have TB : ∀ p ∈ cs, LamX.TabB (hidT s₁.heap H) mg p.1 p.2 := fun p hp => by
    have hTp := T.at_ p hp
    refine ⟨?_, ?_, fun z => ?_⟩
    · obtain ⟨o, us, file, tf, flags, tg, inF, text, tt, e1, r1, r2, r3, rest⟩ := T.hd p hp
      refine ⟨o, us, file, tf, flags, tg, inF, text, tt, seen e1 (notA e1 (fun vs n z => by rw [r2] at z; cases z) fun z => ?_), r1, r2, r3, rest⟩
      rw [r2] at z
      cases z
      simp at r3
    · obtain ⟨bm, ob, b1, b2, b3, b4, b5, b6⟩ := hbm
      refine ⟨bm, ob, b1, b2, fun q => ?_, fun q => ?_, seen b3 (notA b3 (fun vs n z => by rw [b6] at z; cases z) fun z => by rw [b6] at z; cases z), b4, b5, b6⟩
      · obtain ⟨o, es, ep, e, d, _⟩ := hns
        rw [q, e] at b3; cases b3
        rw [d] at b6; cases b6
      · rw [q, hTp] at b3; cases b3; cases b6
    · obtain ⟨o, es, ep, e, d, _⟩ := hns
      rw [z, hTp] at e; cases e; cases d
  have e0 : Env0 P w K mg (hidT s₁.heap H) callerA [] s₁ H := ⟨rfl, hM, fun b o e => of_hidT e, Nat.le_of_eq (hidT_size _ _), trivial, fun b hb => absurd (show b ∈ ([] : List Addr) from hb) (by simp), hok, .of_eq hg⟩
  refine codeAny_mono ((F _ hKb (nsK hns) TB).run callerA [] s₁ H ⟨[.ref a], []⟩ [.ref a] [.ref a] _ _ hr rfl e0 (hbind s₁ (.ref a)) (.cons rfl .nil) (hsp F0 H L)) fun r s' h => ?_
  cases r with
  | error e =>
    obtain ⟨_, _, _, _, _, _, _, _, _, _, _, _, z⟩ := h
    exact z.elim
  | ok fl =>
    cases fl with
    | next => exact False.elim h
    | brk => exact False.elim h
    | cont => exact False.elim h
    | ret u =>
      obtain ⟨v, H', os, bare, un, hok', r', q⟩ := h
      obtain rfl : v = .bl true := q
      obtain rfl : u = Value.bool true := r'
      have stay : ∀ b o, b ∉ cs.map (·.2) → s₁.heap.get? b = some o → s'.heap.get? b = some o := fun b o nb e => by
        cases q : H b with
        | none => exact un.keep b o e q (by intro z; exact absurd (show b ∈ ([] : List Addr) from z) (by simp)) (by simp)
        | some u =>
          rcases L.hh b u q with z | ⟨z, _⟩
          · obtain ⟨_, _, ob, rfl⟩ := L.nf b u z
            obtain ⟨e1, _⟩ := hok b _ q
            obtain ⟨e2, _⟩ := hok' b _ (un.frzs b ob _ q)
            rw [e] at e1; cases e1
            exact e2
          · exact absurd z nb
      have grow : ∀ b ∈ cs.map (·.2), ∃ more : Array Value, s'.heap.get? b = some { cls := .none, data := .fields more } := fun b hb => by
        obtain ⟨more, z⟩ := un.tbls b #[] (L.tb b hb)
        exact ⟨_, hok' b _ z⟩
      refine ⟨rfl, ⟨fun b o e => ?_, fun b o e => ?_⟩, os, bare⟩
      · by_cases hb : b ∈ cs.map (·.2)
        · obtain ⟨more, hm⟩ := grow b hb
          obtain ⟨p, hp, rfl⟩ := List.mem_map.mp hb
          rw [T.at_ p hp] at e; cases e
          exact .inr (.inl ⟨((T.hd p hp).tab (T.at_ p hp)).isCodeTable, rfl, #[], more, rfl, by rw [Array.empty_append]; exact hm⟩)
        · exact .inl (stay b o hb e)
      · by_cases hb : b ∈ cs.map (·.2)
        · obtain ⟨more, hm⟩ := grow b hb
          exact ⟨_, hm⟩
        · exact ⟨o, stay b o hb e⟩
end DL
namespace DL
open PySem L2 PyProof.Rows
def setM : Fm := fun d ds => match d, ds with
  | .lst xs, [.int i, y] => match ixN xs.length i with
    | some k => some (.ok (.dat .non), .lst (xs.set k y))
    | none => none
  | _, _ => none
def gIx (a b : M Rf) : D → M Unit := fun d => bnd a fun r => bnd (cap b) fun k => bnd (lendA setM r [k, d]) fun _ => ret ()
section
variable {T : Tx} {o i e : Expr} {co ci ce : M Rf} {pos apos cpos : Pos} {f : Str}
theorem rg_ix (ho : RE T o co) (hi : RE T i ci) (ha : ∀ v, assign (.Subscript o i pos) T.X.env v = (do
      let ov ← holding [v] (eval o T.X.env)
      let iv ← holding [v, ov] (eval i T.X.env)
      standAt pos
      holding [v, ov, iv] (setItem ov iv v)
      release [v, ov, iv] []) := by intro _; rfl) : RG T (.Subscript o i pos) (gIx co ci) := fun B F0 =>
  (pg_sub (ho B F0) (rd_of hi B F0) set_list ha).weak fun v σ H Q ⟨F, Γ, d, iv, r⟩ => ⟨F, Γ, r.bnd.run.mono fun r0 F1 Γ1 H1 q1 S1 r1 u hu => ⟨F1, Γ1, r1.bnd.run.mono fun k F2 Γ2 H2 q2 S2 r2 z hz => by
    cases r0 with
    | dat d => exact r2.bnd.2.elim
    | own d => exact r2.bnd.2.elim
    | slot j =>
    have hu2 : IsRf T.X.K T.cm B F2 Γ2 σ H2 u (.slot j) := ⟨hu.1, by
      have r3 := r2.bnd
      obtain ⟨_, r3⟩ := r3
      unfold lendA lendX at r3
      simp only at r3
      rcases q : Γ2[j]? with _ | sl
      · simp only [q] at r3
      · cases sl with
        | un => simp only [q] at r3
        | dat d => simp only [q] at r3
        | own d => exact ⟨d, rfl⟩⟩
    obtain ⟨a, ho, d0, r1, d1, i, rfl, h2, h4, h5, hφ, kk⟩ := r2.bnd.lendA hu2
    cases d0 with
    | lst xs =>
      cases k with
      | int n =>
        simp only [setM] at hφ
        split at hφ
        · rename_i m hm
          simp only [Option.some.injEq, Prod.mk.injEq] at hφ
          obtain ⟨rfl, rfl⟩ := hφ
          cases h5 with
          | lst hs =>
            obtain rfl : z = .int n := IsT.int (H := H2) (.inl hz)
            refine ⟨a, _, n, m, rfl, rfl, h4, by rw [hs.length]; exact hm, ?_⟩
            exact (kk _ rfl _ _ (step_upd S2.fh h2 h4 rfl) upd_same (.lst (hs.set m ((iv.mono q1 _).mono q2 _)))).ret.2
        · cases hφ
      | _ => cases hφ
    | _ => cases hφ⟩⟩
def popAtM : Fm := fun d ds => match ds with
    | [.int i] => popM d [.int i]
    | _ => none
theorem re_popAt {cs : M (List D)} (ho : RE T o co) (ha : RA T [e] cs)
    (hbase : attributeBase o "pop" T.X.env (eval o T.X.env) = eval o T.X.env := by rfl)
    (hfew : ((backTo cpos (starEach [e] T.X.env)).all (fun x => !x.1) && (backToKw cpos (keywordEach [] T.X.env)).all (fun x => x.1.isSome)
      && decide ([e].length + ([] : List Keyword).length + (if ([] : List Keyword).isEmpty then 0 else 1) < 30)) = true := by rfl)
    (hline : (apos.endLine == cpos.line) = true := by rfl) (hs : starEach [e] T.X.env = (false, eval e T.X.env) :: starEach [] T.X.env := by rfl) (hplain : (backTo cpos (starEach [] T.X.env)).any (·.1) = false := by rfl) :
    RE T (.Call (.Attribute o "pop" apos) [e] [] cpos) (sMut isLst popAtM co cs) := re_mut mt_popAt mut_popAt PySem.F.slot_list_pop PySem.F.type_list_pop ho ha hbase hfew hline hs hplain
theorem re_xfld (c : Nat) (hx : XfC T.X.K (T.cm c)) (hn : PySem.W.findIn T.X.K (.ref (T.cm c)) f = some none) (ho : RE T o co) (hb : attributeBase o f T.X.env (eval o T.X.env) = eval o T.X.env := by rfl) : RE T (.Attribute o f pos) (sOne (excFld c f) co) := fun B F0 =>
  ⟨fun pins s σ H Q I ⟨F, Γ, r⟩ => by
    refine attr_of hb (thn ((re_opnd ho B F0).run pins s σ H (fun x H1 => ∃ d F1, Same F1 H1 ∧ IsT T.X.K T.cm F1 H1 x d ∧ Res T F1 H1 Q (excFld c f d)) I ⟨F, Γ, r.bnd.mono fun y F1 Γ1 H1 q1 S1 r1 v hv => let ⟨d, fh, i, h⟩ := r1.app1 hv (.refl _); ⟨d, F1, fh, i, h⟩⟩) fun u s1 ⟨x, H1, I1, rx, d, F1, fh, i, h⟩ => ?_)
    cases d with
    | exc c' fs vs =>
      simp only [excFld] at h
      split at h
      · rename_i hcc
        subst hcc
        rcases el : lookD fs vs f with _ | d
        · rw [el] at h; exact h.elim
        rw [el] at h
        obtain ⟨a, dx, rfl, ha, hd⟩ := i.exc fh
        obtain rfl : u = Value.ref a := rx
        rcases hd with ⟨dd, ws, rfl, h1, h2, h3⟩ | ⟨rfl, rfl, rfl⟩
        · obtain ⟨v, l, iv⟩ := look_ws h2 h3 el
          obtain ⟨o, vs', e1, e2, e3, e4⟩ := (I1.hok a _ ha).1
          have hx2 : ObjOk T.X.prog T.X.w H1 s1.heap dd (.xd ws) := I1.hok dd _ h1
          obtain ⟨mA, hns, hr⟩ := hx2
          obtain ⟨od, hod, hl⟩ := lookIn_ns hns
          obtain ⟨u, hu, ru⟩ := RelO.some_of (v := v) (o := mA f) (by rw [← l]; exact hr f)
          have J : PySem.W.InstAt s1.heap a o (T.cm c') (some od) := ⟨e1, e2, by unfold PySem.W.notCls; rw [e4] <;> rfl, by rw [e3]; exact hod⟩
          exact HandSPX.exc_get I1.kIn J hx.ga hx.gg hx.exC (PySem.W.findObj_own hx.hdC hn rfl (by rw [hl, hu])) (handed_of ru) ⟨v, H1, I1.tok _, ru, h.val fh iv⟩
        · cases el
      · exact h.elim
    | _ => exact h.elim⟩
end
end DL
namespace DL
open PySem PySem.Spec PySem.W PyProof.Rows L2 PySem.Calls
end DL
namespace DL
open PySem PySem.Spec PyProof.Rows L2
section
open PySem.W
variable {prog : Program} {w : World} {A : Around} {E : Value → Shared → Prop} {s : Shared} {K : PySem.W.Frag} {x C L f : Addr} {h₀ : Heap} {m : Str → Option Value} {ox : Obj} {od : Option Obj} {b tb : Value}
end
section
variable {T : Tx} {a b : Expr} {ca cb : M Rf} {pos : Pos} {c k : Nat} {φ : Fn}
end
end DL
namespace DL
open PySem L2 PyProof.Rows
section
variable {T : Tx} {e : Expr} {es : List Expr} {cs : M (List D)} {pos p apos : Pos} {m x : Str} {k c : Nat} {ps : List Str} {φ : Fn}
end
end DL
namespace DL
open PySem PySem.Spec PyProof.Rows L2
section
open PySem.W PySem.Calls
variable {prog : Program} {w : World} {A : Around} {E : Value → Shared → Prop} {s : Shared} {K : PySem.W.Frag} {x D : Addr} {ox : Obj} {od : Option Obj}
theorem class_exc {Q : Option Value → Shared → Prop} (T : ExcC K D) (X : K.In s.heap) (I : PySem.W.InstAt s.heap x ox D od) (h : Q (some (.ref D)) { s with toks := s.toks + 1 }) : wpAny (model prog w) A (getAttr? (.ref x) "__class__") Q E s := by
  have hcl : (clsIn K D).isSome = true := by obtain ⟨cd, hc, _⟩ := any_some T.hd; rw [hc]; rfl
  have hf : findObj K D od "__class__" = some (.bind (.builtin "getset_descriptor.__get__") (.builtin "object.__class__")) := by
    cases od with
    | none => exact findObj_dataN hcl T.ha T.hn T.ht
    | some o => exact findObj_data hcl T.ha T.hn T.ht
  obtain ⟨hp, g, d, t, os⟩ := s
  have L0 := I.type (M := model prog w)
  have L1 := looks_findIn (M := model prog w) X T.hg
  have L2 := looks_findIn (M := model prog w) X T.hk
  have L3 := looks_find (M := model prog w) X I hf
  have sub : Looks (model prog w) hp (isInstance (.ref x) (.type "BaseException")) true := L0.andThen (looks_subIn X T.hs)
  have hx0 : (false && onTheHeap (Value.builtin "BaseException.__getattribute__")) = false := rfl
  have hx2 : (Value.builtin "BaseException.__getattribute__" == Value.builtin "object.__getattribute__") = false := by decide +kernel
  have hx1 : (onTheHeap (Value.ref D) && Value.builtin "BaseException.__getattribute__" == Value.builtin "object.__getattribute__") = false := by rw [hx2]; rfl
  unfold getAttr? getAttrBy? getAttrBy
  refine wpAny_bind (wpAny_mkText (wpAny_bind (wpAny_attempt (wpAny_holding (wpAny_bind (L0.at (wpAny_bind (L1.at ?_))))))))
  show wpAny _ _ (if (onTheHeap (Value.ref D) && Value.builtin "BaseException.__getattribute__" == Value.builtin "object.__getattribute__") = true then _ else _) _ _ _
  rw [hx1, if_neg Bool.false_ne_true]
  unfold getAttrByItsOwn hookBefore
  refine wpAny_bind ?_
  rw [if_pos (show onTheHeap (Value.ref D) = true from rfl)]
  refine L2.at ?_
  refine wpAny_bind (wpAny_attempt (wpAny_holding ?_))
  unfold callGetattribute
  rw [hx0, if_neg Bool.false_ne_true]
  unfold boundAndCalled
  rw [PySem.F.excAttr_ValueError.ga.bind (.ref x)]
  refine wpAny_bind (wpAny_pure ?_)
  show wpAny _ _ (call (.builtin "BaseException.__getattribute__") [.ref x, .str "__class__" t]) _ _ _
  refine wpAny_call (codeAny_call_builtin PySem.F.excAttr_ValueError.ga.plain PySem.F.entry_bexc_ga ?_)
  refine @check_slot (model prog w) _ _ ⟨hp, g, d, t + 1, os⟩ "BaseException.__getattribute__" "BaseException" "__getattribute__" (.ref x) [.str "__class__" t] [] _ (by decide +kernel) (by decide +kernel) sub (PySem.F.args_bexc_ga (.ref x) (.str "__class__" t)) ?_
  unfold Builtin.«object.__getattribute__»
  refine wpAny_bind (wpAny_of_eq (a := ((Value.ref x : Value), [Value.str "__class__" t])) (by first | rfl | (simp only [slotArgs]; rfl)) ?_)
  refine wpAny_bind (wpAny_pure (wpAny_bind (L0.at (wpAny_bind (L3.at ?_)))))
  show wpAny _ _ (holding [Value.builtin "object.__class__"] (call (.builtin "getset_descriptor.__get__") [.builtin "object.__class__", .ref x, .ref D]) >>= PySem.ret) _ _ _
  refine wpAny_bind (wpAny_holding (wpAny_call (class_get (s := ⟨hp, g, d, t + 1, os⟩) (ox := ox) (od := od) X I T.hm ?_)))
  refine wpAny_pure ?_
  show wpAny _ _ (handedOut (.ref D)) _ _ _
  rw [handedOut_of (v := .ref D) rfl]
  first
    | exact wpAny_pure (wpAny_pure h)
    | exact wpAny_pure h
    | exact wpAny_pure (wpAny_bind (wpAny_pure (wpAny_pure h)))
theorem kitx_exc (T : ExcC K D) : KitX K (.ref x) (.ref D) (fun h => ∃ ox od, PySem.W.InstAt h x ox D od) :=
  have B : KitX K (.ref x) (.ref D) (fun h => PySem.W.InstAt h x { cls := .none, data := .fields #[] } D none) := PySem.W.handS_kitx_exc T.hg T.hk T.hs T.hd T.ha T.hn T.ht T.hm
  { ty := fun _ _ _ ⟨_, _, I⟩ => I.type
    it := fun _ _ X _ => by
      obtain ⟨cdD, hcD, _⟩ := any_some T.hd
      unfold clsIn at hcD
      split at hcD
      · rename_i c' d' cd' sl' ho
        intro A' Q' E' s' k q
        unfold isType loadHead
        exact wpAny_bind (wpAny_loadPart (k _ _ (X _ _ ho)) (wpAny_pure q))
      · cases hcD
    ne := B.ne
    ca := fun X ⟨_, _, I⟩ k => class_exc T X I k }
end
structure InsC (K : PySem.W.Frag) (C : Addr) : Prop where
  cl : Cls K C
  ha : PySem.W.findIn K (.ref C) "__class__" = some (some (.builtin "object.__class__"))
  hn : PySem.W.specialIn K (.builtin "object.__class__") "__get__" = some (some (.builtin "getset_descriptor.__get__"))
  ht : PySem.W.takesIn K (.builtin "object.__class__") = some true
  hm : PySem.W.mroIn K C (.type "object") = some true
def isiOF (isE : Nat → Bool) (tb : Nat → Nat → Option Bool) (tn : Nat → String → Option Bool) (bt : Nat → String → Bool) : List D → Option Rf
  | [d, .ty n] => match d with
    | .exc c _ _ => if isE c then (tn c n).map fun b => .dat (.bl b) else none
    | .ins c _ _ => if isE c then none else (tn c n).map fun b => .dat (.bl b)
    | d => (tyN d).bind fun t => (kitB t n).map fun b => .dat (.bl b)
  | [d, .cls c'] => match d with
    | .exc c _ _ => if isE c then (tb c c').map fun b => .dat (.bl b) else none
    | .ins c _ _ => if isE c then none else (tb c c').map fun b => .dat (.bl b)
    | d => (tyN d).bind fun t => if bt c' t then some (.dat (.bl false)) else none
  | _ => none
section
variable {T : Tx} {isE : Nat → Bool} {tb : Nat → Nat → Option Bool} {tn : Nat → String → Option Bool} {bt : Nat → String → Bool}
structure IsiF (K : PySem.W.Frag) (cm : CM) (isE : Nat → Bool) (tb : Nat → Nat → Option Bool) (tn : Nat → String → Option Bool) (bt : Nat → String → Bool) : Prop where
  exc : ∀ c, isE c = true → (∃ c' b, tb c c' = some b) ∨ (∃ n b, tn c n = some b) → ExcC K (cm c)
  ins : ∀ c, isE c = false → (∃ c' b, tb c c' = some b) ∨ (∃ n b, tn c n = some b) → InsC K (cm c)
  own : ∀ c c' b, tb c c' = some b → PySem.W.kitOne K (.ref (cm c)) (.ref (cm c')) = some b
  typ : ∀ c n b, tn c n = some b → PySem.W.kitOne K (.ref (cm c)) (.type n) = some b
  bas : ∀ c n, bt c n = true → PySem.W.kitOne K (.type n) (.ref (cm c)) = some false
theorem call_isiO (G : IsiF T.X.K T.cm isE tb tn bt) : CallD T (.builtin "isinstance") (isiOF isE tb tn bt) := by
  intro pins s σ H vs us Q I r ⟨F, ds, fh, at_, h⟩
  -- a class of a built-in type or an own one, asked of data
  have base : ∀ (d : D) (v : V) (c : V) (u : Value) (t : String) (b : Bool), vs = [v, c] → ClsV c u → IsT T.X.K T.cm F H v d → tyN d = some t → PySem.W.kitOne T.X.K (.type t) u = some b → Q (.bl b) H → wpAny (model T.X.prog T.X.w) T.X.A (call (.builtin "isinstance") us) (EP T.X pins σ Q) T.X.xe s :=
    fun d v c u t b ev k i e ek q => call_isiZ I (by rw [← ev]; exact r) k (tyX_of fh i e) ek q
  have exc : ∀ (c : Nat) (fs : List Str) (xs : List D) (v : V) (cv : V) (u : Value) (b : Bool), vs = [v, cv] → ClsV cv u → IsT T.X.K T.cm F H v (.exc c fs xs) → ExcC T.X.K (T.cm c) → PySem.W.kitOne T.X.K (.ref (T.cm c)) u = some b → Q (.bl b) H → wpAny (model T.X.prog T.X.w) T.X.A (call (.builtin "isinstance") us) (EP T.X pins σ Q) T.X.xe s := by
    intro c fs xs v cv u b ev k i hE ek q
    subst ev
    obtain ⟨u1, u2, rfl, r1, r2⟩ := vals2 r
    have e2 := k.eq r2
    subst e2
    obtain ⟨a, dx, rfl, ha, _⟩ := i.exc fh
    obtain rfl : u1 = Value.ref a := r1
    obtain ⟨o, ws, e1, e2, e3, e4⟩ := (I.hok a _ ha).1
    have J : ∃ ox od, PySem.W.InstAt s.heap a ox (T.cm c) od := by
      cases dx with
      | none => exact ⟨o, none, e1, e2, by unfold PySem.W.notCls; rw [e4] <;> rfl, by rw [e3]; trivial⟩
      | some dd =>
        rename_i hd
        rcases hd with ⟨dd', zs, z1, z2, _⟩ | ⟨z, _⟩
        · cases z1
          obtain ⟨mA, hns, _⟩ := (I.hok dd _ z2 : ObjOk T.X.prog T.X.w H s.heap dd (.xd zs))
          obtain ⟨od, hod, _⟩ := lookIn_ns hns
          exact ⟨o, some od, e1, e2, by unfold PySem.W.notCls; rw [e4] <;> rfl, by rw [e3]; exact hod⟩
        · cases z
    exact PySem.W.kia_one (kitx_exc hE) I.kIn J ek (fun z => nomatch z) fun tk => ⟨.bl b, H, I.tok tk, rfl, q⟩
  have ins : ∀ (c : Nat) (fs : List Str) (xs : List D) (v : V) (cv : V) (u : Value) (b : Bool), vs = [v, cv] → ClsV cv u → IsT T.X.K T.cm F H v (.ins c fs xs) → InsC T.X.K (T.cm c) → PySem.W.kitOne T.X.K (.ref (T.cm c)) u = some b → Q (.bl b) H → wpAny (model T.X.prog T.X.w) T.X.A (call (.builtin "isinstance") us) (EP T.X pins σ Q) T.X.xe s := by
    intro c fs xs v cv u b ev k i hI ek q
    obtain ⟨a, dx, ws, rfl, ha, _, _⟩ := i.ins fh
    exact call_isi pins s σ H _ us Q I r ⟨_, cv, _, u, b, ev, k, .base (.ins ha hI.cl hI.ha hI.hn hI.ht hI.hm), ek, q⟩
  have tail1 : ∀ (d : D) (v : V) (n : String), vs = [v, .ty n] → IsT T.X.K T.cm F H v d → Res T F H Q ((tyN d).bind fun t => (kitB t n).map fun b => .dat (.bl b)) → wpAny (model T.X.prog T.X.w) T.X.A (call (.builtin "isinstance") us) (EP T.X pins σ Q) T.X.xe s := by
    intro d v n ev i h
    rcases e : tyN d with _ | t
    · simp only [e, Option.bind_none] at h; exact h.elim
    · rcases e2 : kitB t n with _ | b
      · simp only [e, e2, Option.bind_some, Option.map_none] at h; exact h.elim
      · simp only [e, e2, Option.bind_some, Option.map_some] at h
        exact base d v _ _ t b ev (.ty n) i e (kit_ty e2) (h.val fh (.bl _))
  have tail2 : ∀ (d : D) (v : V) (c' : Nat), vs = [v, .ref (T.cm c')] → IsT T.X.K T.cm F H v d → Res T F H Q ((tyN d).bind fun t => if bt c' t then some (.dat (.bl false)) else none) → wpAny (model T.X.prog T.X.w) T.X.A (call (.builtin "isinstance") us) (EP T.X pins σ Q) T.X.xe s := by
    intro d v c' ev i h
    rcases e : tyN d with _ | t
    · simp only [e, Option.bind_none] at h; exact h.elim
    · simp only [e, Option.bind_some] at h
      split at h
      · rename_i hb
        exact base d v _ _ t false ev (.own _) i e (G.bas c' t hb) (h.val fh (.bl _))
      · exact h.elim
  match ds, at_, h with
  | [d, .ty n], at_, h =>
    obtain ⟨v, u, rfl, i1, i2⟩ := at_.two
    have e2 := i2.ty
    subst e2
    cases d with
    | exc c fs xs =>
      simp only [isiOF] at h
      split at h
      · rename_i hE
        rcases e : tn c n with _ | b
        · simp only [e, Option.map_none] at h; exact h.elim
        · simp only [e, Option.map_some] at h
          exact exc c fs xs v _ _ b rfl (.ty n) i1 (G.exc c hE (.inr ⟨n, b, e⟩)) (G.typ c n b e) (h.val fh (.bl _))
      · exact h.elim
    | ins c fs xs =>
      simp only [isiOF] at h
      split at h
      · exact h.elim
      · rename_i hE
        rcases e : tn c n with _ | b
        · simp only [e, Option.map_none] at h; exact h.elim
        · simp only [e, Option.map_some] at h
          exact ins c fs xs v _ _ b rfl (.ty n) i1 (G.ins c (by simpa using hE) (.inr ⟨n, b, e⟩)) (G.typ c n b e) (h.val fh (.bl _))
    | _ => exact tail1 _ v n rfl i1 h
  | [d, .cls c'], at_, h =>
    obtain ⟨v, u, rfl, i1, i2⟩ := at_.two
    have e2 := i2.cls
    subst e2
    cases d with
    | exc c fs xs =>
      simp only [isiOF] at h
      split at h
      · rename_i hE
        rcases e : tb c c' with _ | b
        · simp only [e, Option.map_none] at h; exact h.elim
        · simp only [e, Option.map_some] at h
          exact exc c fs xs v _ _ b rfl (.own _) i1 (G.exc c hE (.inl ⟨c', b, e⟩)) (G.own c c' b e) (h.val fh (.bl _))
      · exact h.elim
    | ins c fs xs =>
      simp only [isiOF] at h
      split at h
      · exact h.elim
      · rename_i hE
        rcases e : tb c c' with _ | b
        · simp only [e, Option.map_none] at h; exact h.elim
        · simp only [e, Option.map_some] at h
          exact ins c fs xs v _ _ b rfl (.own _) i1 (G.ins c (by simpa using hE) (.inl ⟨c', b, e⟩)) (G.own c c' b e) (h.val fh (.bl _))
    | _ => exact tail2 _ v c' rfl i1 h
end
end DL
namespace DL
open PySem PySem.Spec PyProof.Rows L2 HT
section
variable {prog : Program} {w : World} {A : Around} {E : Value → Shared → Prop} {s : Shared}
end
section
variable {T : Tx} {e : Expr} {ce : M Rf} {k : Nat} {p1 p2 p3 pos : Pos}
end
end DL
namespace DL
open PySem L2 PyProof.Rows
section
variable {g g1 : D → M Unit} {ct ct1 : M Bool} {ci1 : M (List D)} {ce : M D} {vs vs1 : List Nat}
end
section
variable {T : Tx} {elt tg iter tg1 iter1 : Expr} {ifs ifs1 : List Expr} {scope : Scope} {own : List (Str × Nat)} {pos spos py : Pos} {ci ci1 : M (List D)} {g g1 : D → M Unit} {ct ct1 : M Bool} {ce : M Rf}
end
section
variable {T : Tx}
end
end DL
namespace DL
open PySem L2 PyProof.Rows
def tupK : D → Bool
  | .tup ds => ds.all atomK
  | _ => false
def kE0 : D → D → Bool
  | .int i, .int j => decide (i = j)
  | .str x, .str y => decide (x = y)
  | _, _ => false
def kE : D → D → Bool
  | .tup a, .tup b => eqL kE0 a b
  | a, b => kE0 a b
def lkD : List D → List D → D → Option D
  | k :: ks, v :: vs, x => if kE k x then some v else lkD ks vs x
  | _, _, _ => none
def hasD (ks : List D) (x : D) : Bool := ks.any fun k => kE k x
def replV : List D → List D → D → D → List D
  | k :: ks, v :: vs, x, y => (if kE k x then y else v) :: replV ks vs x y
  | _, _, _, _ => []
def ptK (ks : List D) (x : D) : List D := if hasD ks x then ks else ks ++ [x]
def ptV (ks vs : List D) (x y : D) : List D := if hasD ks x then replV ks vs x y else vs ++ [y]
theorem kE_key (a b : Key) : kE (keyD a) (keyD b) = decide (a = b) := by
  rcases a with i | x <;> rcases b with j | y
  · show decide (i = j) = _
    exact decide_eq_decide.mpr ⟨fun h => by rw [h], fun h => Sum.inl.inj h⟩
  · show false = _
    exact (decide_eq_false (by simp)).symm
  · show false = _
    exact (decide_eq_false (by simp)).symm
  · show decide (x = y) = _
    exact decide_eq_decide.mpr ⟨fun h => by rw [h], fun h => Sum.inr.inj h⟩
theorem kE0_key (a b : Key) : kE0 (keyD a) (keyD b) = decide (a = b) := by
  rw [← kE_key]
  rcases a with i | x <;> rcases b with j | y <;> rfl
theorem kE_keys : ∀ a b : List Key, kE (.tup (a.map keyD)) (.tup (b.map keyD)) = decide (a = b)
  | [], [] => rfl
  | [], _ :: _ => by show false = _; simp
  | _ :: _, [] => by show false = _; simp
  | x :: a, y :: b => by
    have ih := kE_keys a b
    show (kE0 (keyD x) (keyD y) && eqL kE0 (a.map keyD) (b.map keyD)) = _
    have ih : eqL kE0 (a.map keyD) (b.map keyD) = decide (a = b) := ih
    rw [kE0_key, ih]
    by_cases h1 : x = y <;> by_cases h2 : a = b <;> simp [h1, h2]
section
variable {K : PySem.W.Frag} {cm : CM} {F H : Hp} {κ : Type} [DecidableEq κ] {enc : κ → D}
theorem lk_of (he : ∀ a b, kE (enc a) (enc b) = decide (a = b)) : ∀ {kvs : List (κ × V)} {vs : List D} {k : κ} {d : D}, IsAll K cm F (kvs.map (·.2)) vs → lkD (kvs.map fun p => enc p.1) vs (enc k) = some d → ∃ v, valV kvs k = some v ∧ DL.Is K cm F v d
  | [], vs, k, d, i, h => by cases vs <;> cases h
  | p :: kvs, [], k, d, i, h => by cases h
  | p :: kvs, v :: vs, k, d, i, h => by
    cases i with
    | cons i is =>
      simp only [List.map_cons, lkD, he] at h
      by_cases e : p.1 = k
      · rw [decide_eq_true e, if_pos rfl] at h
        cases h
        exact ⟨p.2, valV_pos e, i⟩
      · rw [decide_eq_false e, if_neg (by simp)] at h
        rw [valV_neg e]
        exact lk_of he is h
theorem lk_none (he : ∀ a b, kE (enc a) (enc b) = decide (a = b)) : ∀ {kvs : List (κ × V)} {vs : List D} {k : κ}, IsAll K cm F (kvs.map (·.2)) vs → (hasD (kvs.map fun p => enc p.1) (enc k) = (valV kvs k).isSome)
  | [], vs, k, i => rfl
  | p :: kvs, vs, k, i => by
    cases vs with
    | nil => cases i
    | cons v vs =>
      cases i with
      | cons i is =>
        have ih := lk_none he (k := k) is
        show (kE (enc p.1) (enc k) || hasD (kvs.map fun p => enc p.1) (enc k)) = _
        rw [he, ih]
        by_cases e : p.1 = k
        · rw [decide_eq_true e, valV_pos e]; rfl
        · rw [decide_eq_false e, valV_neg e]; rfl
theorem atom_key {d : D} (h : atomK d = true) : ∃ κ, d = keyD κ := by
  cases d with
  | int i => exact ⟨.inl i, rfl⟩
  | str x => exact ⟨.inr x, rfl⟩
  | _ => cases h
theorem atoms_keys : ∀ {ds : List D}, ds.all atomK = true → ∃ κs : List Key, ds = κs.map keyD
  | [], _ => ⟨[], rfl⟩
  | d :: ds, h => by
    simp only [List.all_cons, Bool.and_eq_true] at h
    obtain ⟨k, rfl⟩ := atom_key h.1
    obtain ⟨ks, rfl⟩ := atoms_keys h.2
    exact ⟨k :: ks, rfl⟩
theorem is_key {k : Key} {v : V} (h : IsT K cm F H v (keyD k)) : v = kV k := by
  rcases k with i | x
  · exact h.int
  · exact h.str
theorem are_keys : ∀ {ks : List Key} {vs : List V}, IsAll K cm F vs (ks.map keyD) → vs = ks.map kV
  | [], _, h => by cases h; rfl
  | k :: ks, _, h => by
    cases h with
    | cons h hs => rw [is_key (H := F) (.inl h), are_keys hs]; rfl
end
def okGet (ks : List D) (x : D) : Bool := !ks.isEmpty && ((atomK x && ks.all atomK) || (tupK x && ks.all tupK))
section
variable {K : PySem.W.Frag} {cm : CM} {F H : Hp}
end
def getD2 : D → D → Option Rf
  | .dic ks vs, x => if okGet ks x then (lkD ks vs x).map .dat else none
  | _, _ => none
def inD2 : D → D → Option Rf
  | x, .dic ks vs => if okGet ks x then some (.dat (.bl (hasD ks x))) else none
  | _, _ => none
section
variable {T : Tx} {a b : Expr} {ca cb : M Rf} {pos : Pos} {k : Nat}
end
section
variable {X : Cx} {pins : List (Addr × Obj)} {σ : L2.St} {H : Hp} {s : Shared} {a : Addr}
end
def okPut (ks : List D) (x : D) : Bool := (atomK x && ks.all atomK) || (tupK x && ks.all tupK)
def putDM : Fm := fun d ds => match d, ds with
  | .dic ks vs, [x, y] => if okPut ks x && decide (ks.length < big) then some (.ok (.dat .non), .dic (ptK ks x) (ptV ks vs x y)) else none
  | _, _ => none
section
variable {K : PySem.W.Frag} {cm : CM} {F H : Hp}
end
section
variable {T : Tx} {o i : Expr} {co ci : M Rf} {pos : Pos} {k : Nat}
end
section
variable {X : Cx} {pins : List (Addr × Obj)} {σ : L2.St} {H : Hp} {s : Shared} {a : Addr}
end
section
variable {T : Tx}
theorem le_strs (x y : Str) : PySem.W.dataLe false py (.str x) (.str y) = decide (x.cps.toList ≤ y.cps.toList) := by
  show (!(decide (y.cps.toList < x.cps.toList) || (!decide (x.cps.toList < y.cps.toList) && false))) = _
  by_cases h : y.cps.toList < x.cps.toList
  · rw [decide_eq_true h, decide_eq_false (show ¬ x.cps.toList ≤ y.cps.toList from fun z => z h)]; rfl
  · rw [decide_eq_false h, decide_eq_true (show x.cps.toList ≤ y.cps.toList from h)]; simp
def strLe (x y : Str) : Bool := decide (x.cps.toList ≤ y.cps.toList)
theorem sortD_strs (xs : List Str) : sortD (xs.map .str) = (xs.mergeSort strLe).map .str := (List.map_mergeSort fun a _ b _ => (le_strs a b).symm).symm
end
end DL
namespace DL
open PySem PySem.Spec L2 PyProof.Rows
section
variable {X : Cx} {pins : List (Addr × Obj)} {σ : L2.St} {H H0 H' : Hp} {s : Shared} {a : Addr} {y v : V} {u r : Value} {E : Value → Shared → Prop}
end
section
variable {X : Cx} {kx vx tg iter : Expr} {ifs : List Expr} {scope : Scope} {own : List (Str × Nat)} {pos : Pos} {wi : TI} {g : TG} {tt : TT} {tk tv : TE}
end
def loopDc (g : D → M Unit) (ct : M Bool) (ck cv : M D) (vs : List Nat) : List D → List D → List D → M (List D × List D)
  | [], ks, ws, Γ => some (.ok (ks, ws), Γ)
  | d :: ds, ks, ws, Γ => match g d Γ with
    | some (.ok _, Γa) => match ct Γa with
      | some (.ok true, Γb) => match ck Γb with
        | some (.ok x, Γc) => match cv Γc with
          | some (.ok y, Γd) => if okPut ks x && decide (ks.length < big) then loopDc g ct ck cv vs ds (ptK ks x) (ptV ks ws x y) (wipeG Γd vs) else none
          | _ => none
        | _ => none
      | some (.ok false, Γb) => loopDc g ct ck cv vs ds ks ws (wipeG Γb vs)
      | _ => none
    | _ => none
section
variable {T : Tx} {kx vx tg iter : Expr} {ifs : List Expr} {scope : Scope} {pos : Pos} {ci : M (List D)} {g : D → M Unit} {ct : M Bool} {ck cv : M Rf}
end
end DL
namespace DL
open PySem L2 PyProof.Rows
section
variable {K : PySem.W.Frag} {cm : CM} {io : Option Addr} {B B1 F0 F1 F2 : Hp} {Γ1 Γ2 : List Sl} {σ : L2.St} {H1 H2 : Hp} {vs : List Nat}
end
theorem IsRf.weakB {K : PySem.W.Frag} {cm : CM} {B B' F : Hp} {Γ : List Sl} {σ : L2.St} {H : Hp} {v : V} {r : Rf} (h : IsRf K cm B' F Γ σ H v r) (q : Same B B') : IsRf K cm B F Γ σ H v r := by
  cases r with
  | dat d => exact h
  | slot i => exact h
  | own d =>
    obtain ⟨a, ho, h1, h2, h3, h4⟩ := h
    exact ⟨a, ho, h1, h2, q.free h3, h4⟩
section
variable {T : Tx} {elt tg iter : Expr} {ifs : List Expr} {scope : Scope} {own : List (Str × Nat)} {body : List Stmt} {pos spos py : Pos} {ci : M (List D)} {g : D → M Unit} {ct : M Bool} {ce : M Rf} {cb : M Fl}
def Wait (T : Tx) (B B0 F0 F : Hp) (as : List Addr) (ds : List D) (k : Nat) : Prop := ∀ j a d, k ≤ j → as[j]? = some a → ds[j]? = some d → F0 a = none ∧ B a = none ∧ ∃ ho, B0 a = some ho ∧ OwnIs T.X.K T.cm F ho d
theorem Wait.mono {B B0 F0 F F' : Hp} {as : List Addr} {ds : List D} {k : Nat} (h : Wait T B B0 F0 F as ds k) (q : Same F F') : Wait T B B0 F0 F' as ds k := fun j a d hj ha hd => by
  obtain ⟨h1, h2, ho, h3, h4⟩ := h j a d hj ha hd
  exact ⟨h1, h2, ho, h3, h4.mono q⟩
end
end DL
namespace DL
open PySem PySem.Spec PyProof.Rows L2
section
variable {T : Tx} {a b : Expr} {ca cb : M Rf} {pos : Pos} {c k : Nat} {φ : Fn}
end
end DL
namespace DL
open PySem PySem.Spec L2 PyProof.Rows
def SwD (F F' : Hp) : Prop := ∀ b o, F b = some o → F' b = some o ∨ ∃ u o', lockO u = true ∧ ((o = u ∧ F' b = some (.frz o' u)) ∨ (o = .frz o' u ∧ F' b = some u))
theorem SwD.flat {F F' : Hp} (e : SwD F F') {b : Addr} {o : HO} (h : F b = some o) (n1 : lockO o = false) (n2 : ∀ o' u, o = .frz o' u → lockO u = false) : F' b = some o := by
  rcases e b o h with h | ⟨u, o', hl, ⟨rfl, h⟩ | ⟨rfl, h⟩⟩
  · exact h
  · rw [n1] at hl; cases hl
  · rw [n2 _ _ rfl] at hl; cases hl
section
variable {K : PySem.W.Frag} {cm : CM} {F F' H H' : Hp}
theorem codeO_flat (e : SwD F F') {c : Addr} {q : Str} (h : F c = some (LamX.CodeO c q)) : F' c = some (LamX.CodeO c q) := e.flat h rfl fun _ _ z => nomatch z
end
section
variable {K : PySem.W.Frag} {cm : CM} {io : Option Addr} {B F0 F : Hp} {Γ : List Sl} {σ : L2.St} {H : Hp} {a : Addr} {od : Obj} {u : HO}
theorem TabsF.swap {cm : CM} {F F' H : Hp} {a : Addr} {u x : HO} (t : TabsF cm F H) (e : SwD F F') (hH : H a = some u) (nu : ntb u = true) (nx : ntb x = true) (eF : F' = upd F a x) : TabsF cm F' (upd H a x) where
  all := fun b ps h => t.all b ps (upd_tbl nx h)
  nof := fun b o h => by rw [eF] at h; exact (upd_nof nx h).elim (t.nof b o) id
  tab := fun p hp => by
    obtain ⟨ps, h1, h2, h3⟩ := t.tab p hp
    refine ⟨ps, by rw [upd_ne (fun z => by rw [z, hH] at h1; cases h1; cases nu)]; exact h1, h2, fun pos cv h => ?_⟩
    obtain ⟨c, e1, e2⟩ := h3 pos cv h
    exact ⟨c, e1, codeO_flat e e2⟩
end
section
variable {T : Tx} {B F0 F : Hp} {Γ : List Sl} {σ : L2.St} {H : Hp} {i : Nat}
end
section
variable {T : Tx} {elt tg iter kx vx : Expr} {ifs : List Expr} {scope : Scope} {pos py : Pos} {g : D → M Unit} {ct : M Bool} {ce ck cv : M Rf}
end
section
variable {K : PySem.W.Frag} {cm : CM} {F H : Hp}
end
section
variable {T : Tx} {o e f : Expr} {co ce cf : M Rf} {apos cpos : Pos} {k : Nat}
end
section
variable {K : PySem.W.Frag} {cm : CM} {F H : Hp}
end
end DL
namespace DL
open PySem PySem.Spec PyProof.Rows L2
section
variable {T : Tx} {a b : Expr} {ca cb : M Rf} {pos : Pos} {c k : Nat} {φ : Fn}
end
end DL
namespace DL
open PySem PySem.Spec PyProof.Rows L2
section
variable {T : Tx} {a b : Expr} {ca cb : M Rf} {pos : Pos} {c k : Nat} {φ : Fn}
end
section
variable {T : Tx} {a b : Expr} {ca cb : M Rf} {pos : Pos} {c k : Nat} {φ : Fn} {os : List Nat}
end
end DL
namespace DL
open PySem PySem.Spec PyProof.Rows L2
section
variable {T : Tx} {o e : Expr} {co ce : M Rf} {apos cpos : Pos}
end
section
variable {T : Tx}
end
section
variable {T : Tx}
end
section
variable {T : Tx} {a b : Expr} {ca cb : M Rf} {pos : Pos} {k : Nat}
end
end DL
namespace DL
open PySem PySem.Spec PyProof.Rows L2
abbrev TKV := List (List Key × V)
def mergeT (kvs more : TKV) : TKV := more.foldl (fun acc kv => putK acc kv.1 kv.2) kvs
section
variable {X : Cx} {pins : List (Addr × Obj)} {σ : L2.St} {H : Hp} {s : Shared}
theorem KT.all {H : Hp} : ∀ {more : TKV} {prs : List (List Key × Addr × Value)} {kvs : TKV} {xs : List (List Key × Addr × Value)}, KT H more prs → KT H kvs xs → KT H (mergeT kvs more) (storedAllH xs prs)
  | _, _, kvs, xs, .nil, r => r
  | _, _, kvs, xs, @Paired.cons _ _ _ p q ps qs h t, r => by
    show KT H (mergeT (putK kvs p.1 p.2) ps) (storedAllH (storedH xs q.1 q.2.1 q.2.2) qs)
    refine KT.all t ?_
    rw [← h.1]
    exact r.put p.1 h.2.1 h.2.2
end
section
variable {K : PySem.W.Frag} {cm : CM} {F H : Hp}
end
end DL
namespace DL
open PySem PySem.Spec PyProof.Rows L2
section
variable {T : Tx} {pos : Pos}
end
end DL
namespace DL
open PySem PySem.Spec PyProof.Rows L2
section
variable {T : Tx} {o e : Expr} {co : M Rf} {cs : M (List D)} {apos cpos : Pos} {k : Nat}
end
end DL
namespace DL
open PySem PySem.Spec PyProof.Rows L2
end DL
namespace DL
open PySem L2 PyProof.Rows SeqAt
inductive KIs (h : Heap) : MKey → Value → Prop
  | str (x : Str) (t : Tok) : KIs h (.inl (.inr x)) (.str x t)
  | tup {ks : List Key} {b : Addr} (n : NestedIs h (.tup (ks.map nkOf)) (.ref b)) : KIs h (.inr ks) (.ref b)
theorem KIs.nk {h : Heap} {k : MKey} {v : Value} (x : KIs h k v) : NestedIs h (nkM k) v := by
  cases x with
  | str x t => exact .text x t
  | tup n => exact n
structure MxAt (w : World) (h : Heap) (a : Addr) (xs : List MEnt) : Prop where
  ob : ∃ o ep, h.get? a = some o ∧ o.ExactDict ∧ o.data = .dict (xs.map (entM w)).toArray ep
  ks : ∀ x ∈ xs, NestedIs h (nkM x.1) x.2.1
  nd : (xs.map (·.1)).Nodup
section
variable {prog : Program} {w : World} {A : Around} {E : Value → Shared → Prop} {s : Shared}
theorem MxAt.typ {a : Addr} {xs : List MEnt} (M : MxAt w s.heap a xs) : s.TypeIs (.ref a) "dict" := let ⟨o, _, ho, hx, _⟩ := M.ob; ⟨o, ho, hx.1⟩
end
end DL
namespace DL
open PySem L2 PyProof.Rows
theorem kE_mk (a b : MKey) : kE (mkD a) (mkD b) = decide (a = b) := by
  rcases a with a | a <;> rcases b with b | b
  · show kE (keyD a) (keyD b) = _
    rw [kE_key]
    exact decide_eq_decide.mpr ⟨fun h => by rw [h], fun h => Sum.inl.inj h⟩
  · refine Eq.trans ?_ (decide_eq_false (by simp)).symm
    rcases a with i | x <;> rfl
  · refine Eq.trans ?_ (decide_eq_false (by simp)).symm
    rcases b with i | x <;> rfl
  · show kE (.tup (a.map keyD)) (.tup (b.map keyD)) = _
    rw [kE_keys]
    exact decide_eq_decide.mpr ⟨fun h => by rw [h], fun h => Sum.inr.inj h⟩
def keyX : D → Bool
  | .str _ => true
  | .tup ds => ds.all atomK
  | _ => false
def lookK : MKey → Bool
  | .inl (.inr _) => true
  | .inr _ => true
  | _ => false
section
variable {K : PySem.W.Frag} {cm : CM} {F H : Hp}
theorem keyX_is {x : D} {y : V} (h : keyX x = true) (i : DL.Is K cm F y x) : ∃ k, x = mkD k ∧ lookK k = true ∧ MVal F k y := by
  cases x with
  | str s => exact ⟨.inl (.inr s), rfl, rfl, IsT.str (H := F) (.inl i)⟩
  | tup ds =>
    obtain ⟨b, ws, rfl, hb, hw⟩ := IsT.tupD (H := F) (.inl i) h
    obtain ⟨κs, rfl⟩ := atoms_keys h
    obtain rfl := are_keys hw
    exact ⟨.inr κs, rfl, rfl, b, rfl, hb⟩
  | _ => cases h
theorem keyX_isT {x : D} {y : V} (h : keyX x = true) (i : IsT K cm F H y x) : ∃ k, x = mkD k ∧ lookK k = true ∧ MVal F k y := by
  rcases i with i | ⟨a, ho, rfl, e, i⟩
  · exact keyX_is h i
  · cases i <;> cases h
theorem IsT.dix {v : V} {ks vs : List D} (hh : Same F H) (h : IsT K cm F H v (.dix ks vs)) : ∃ a b ep kvs xs, v = .ref a ∧ H a = some (MxO cm.w b xs ep) ∧ (b == sysModules) = false ∧ xs.length ≤ sizeLine ∧ (xs.map (·.1)).Nodup ∧ (∃ x ∈ xs, isTupM x.1 = true) ∧ KM F kvs xs ∧ kvs.map (fun p => mkD p.1) = ks ∧ IsAll K cm F (kvs.map (·.2)) vs := by
  rcases h with h | ⟨a, ho, rfl, e, h⟩
  · cases h with
    | obj h ho =>
      cases ho with
      | dX ha hl hn ht hp hk hs => exact ⟨_, _, _, _, _, rfl, hh _ _ (h.flat rfl), ha, hl, hn, ht, hp, hk, hs⟩
  · cases h with
    | dX ha hl hn ht hp hk hs => exact ⟨_, _, _, _, _, rfl, e, ha, hl, hn, ht, hp, hk, hs⟩
end
section
variable {X : Cx} {pins : List (Addr × Obj)} {σ : L2.St} {H F : Hp} {s : Shared} {a : Addr} {y v : V} {u r : Value} {o : Option V} {A : Around} {E : Value → Shared → Prop}
def MG (X : Cx) (H : Hp) (a : Addr) (y : V) (o : Option V) : Prop := ∃ F b ep kvs xs k, Same F H ∧ H a = some (MxO X.w b xs ep) ∧ (b == sysModules) = false ∧ (xs.map (·.1)).Nodup ∧ (∃ x ∈ xs, isTupM x.1 = true) ∧ KM F kvs xs ∧ MVal F k y ∧ lookK k = true ∧ o = valV kvs k
end
section
variable {X : Cx} {o i e : Expr} {pos : Pos} {td ty : TE}
end
section
variable {T : Tx} {a b : Expr} {ca cb : M Rf} {pos : Pos} {k : Nat} {F H : Hp}
theorem lkD_none {K : PySem.W.Frag} {cm : CM} {κ : Type} [DecidableEq κ] {enc : κ → D} (he : ∀ a b, kE (enc a) (enc b) = decide (a = b)) : ∀ {kvs : List (κ × V)} {vs : List D} {k : κ}, IsAll K cm F (kvs.map (·.2)) vs → lkD (kvs.map fun p => enc p.1) vs (enc k) = none → valV kvs k = none
  | [], vs, k, i, h => rfl
  | p :: kvs, [], k, i, h => by cases i
  | p :: kvs, v :: vs, k, i, h => by
    cases i with
    | cons i is =>
      simp only [List.map_cons, lkD, he] at h
      by_cases e : p.1 = k
      · rw [decide_eq_true e, if_pos rfl] at h; cases h
      · rw [decide_eq_false e, if_neg (by simp)] at h
        rw [valV_neg e]
        exact lkD_none he is h
theorem mg_of (wc : T.cm.w = T.X.w) {v y : V} {ks vs : List D} {x : D} (fh : Same F H) (i : IsT T.X.K T.cm F H v (.dix ks vs)) (iy : IsT T.X.K T.cm F H y x) (ok : keyX x = true) : ∃ a o, v = .ref a ∧ MG T.X H a y o ∧ hasD ks x = o.isSome ∧ (∀ d, lkD ks vs x = some d → ∃ r, o = some r ∧ T.Is F r d) ∧ (lkD ks vs x = none → o = none) := by
  obtain ⟨k, rfl, lk, m⟩ := keyX_isT ok iy
  obtain ⟨a, b, ep, kvs, xs, rfl, e, hs, hl, hn, ht, p, rfl, hv⟩ := i.dix fh
  rw [wc] at e
  exact ⟨a, valV kvs k, rfl, ⟨F, b, ep, kvs, xs, k, fh, e, hs, hn, ht, p, m, lk, rfl⟩, lk_none (enc := mkD) kE_mk hv, fun d e => lk_of (enc := mkD) kE_mk hv e, fun e => lkD_none (enc := mkD) kE_mk hv e⟩
end
section
variable {T : Tx} {o e : Expr} {co ce : M Rf} {apos cpos : Pos} {k : Nat}
end
section
variable {T : Tx} {o i : Expr} {co ci : M Rf} {pos : Pos} {k : Nat}
end
end DL
namespace DL
open PySem L2 PyProof.Rows
section
variable {P : Program} {w : World} {K : PySem.W.Frag} {tg : Expr} {a b : Addr} {xs : List MEnt} {ep : Nat} {vk : List V}
end
section
variable {T : Tx} {e tg : Expr} {ca : M Rf} {k : Nat}
end
end DL
namespace DL
open PySem L2 PyProof.Rows PySem.Spec
def tupleKF : List D → Option Rf
  | [.lst xs] => if xs.all atomK then none else some (.dat (.kn xs))
  | _ => none
section
variable {T : Tx}
theorem call_tupleZ {X : Cx} : CallR X (.type "tuple") (fun xs H Q => ∃ p ys, xs = [.ref p] ∧ SqL X.K H p ys ∧ ∀ l (o : Obj), o.dict = none → H l = none → Q (.ref l) (upd H l (.frz o (.tup ys)))) := by
  intro pins s σ H xs us Q I r h
  obtain ⟨p, ys, rfl, hq, q⟩ := h
  obtain ⟨u, rfl, rx⟩ := vals1 r
  cases rx
  obtain ⟨its, r', pl, hz⟩ := I.list hq
  have hlen := r'.length
  refine call_tuple_list pl.isList (fun h' kp => ?_) (by rw [List.size_toArray, ← hlen]; exact hz)
  have I1 : Inv X pins σ H { s with heap := h' } := I.kept (t' := s.toks) kp
  have ob : (h'.push { cls := .type "tuple", data := .seq its.toArray }).get? h'.objs.size = some { cls := .type "tuple", data := .seq its.toArray } := Heap.get?_push_size _ rfl
  have I2 : Inv X pins σ (upd H h'.objs.size (.frz { cls := .type "tuple", data := .seq its.toArray } (.tup ys))) { s with heap := h'.push { cls := .type "tuple", data := .seq its.toArray } } :=
    I1.laid (t' := s.toks) (fun b o e => Heap.get?_push_of_some _ e) (Nat.le_refl _) ⟨ob, (show ObjOk X.prog X.w _ _ _ (.tup ys) from ⟨hz, its, r', IsTup.new _ _⟩)⟩
  exact ⟨.ref h'.objs.size, _, I2, rfl, q _ _ rfl (I1.hok.fresh (Nat.le_refl _))⟩
theorem call_tupleKF : CallD T (.type "tuple") tupleKF := by
  intro pins s σ H vs us Q I r ⟨F, ds, fh, at_, h⟩
  match ds, at_, h with
  | [.lst xs], at_, h =>
    obtain ⟨v, rfl, i⟩ := at_.one
    simp only [tupleKF] at h
    split at h
    · exact h.elim
    · rename_i ha
      obtain ⟨a, ws, rfl, g1, g2⟩ := i.lst fh
      refine call_tupleZ pins s σ H _ us Q I r ⟨a, ws, rfl, g1, fun l o hd hl => ?_⟩
      have hF : F l = none := fh.free hl
      exact h _ _ _ (.new fh hl) (.kn upd_same hd (by simpa using ha) (g2.mono (.up hF) _))
def fgR : Rf → M Rf
  | .dat (.kn ds) => ret (.dat (.tup ds))
  | _ => fail
def sFg (c : M Rf) : M Rf := bnd c fgR
theorem re_fg {e : Expr} {c : M Rf} (h : RE T e c) : RE T e (sFg c) := fun B F0 => (h B F0).weak fun σ H Q ⟨F, Γ, r⟩ => by
  refine ⟨F, Γ, r.bnd.mono fun r' F' Γ' H' q S' r2 v hv => ?_⟩
  cases r' with
  | dat d =>
    cases d with
    | kn ds =>
      have hv : T.Is F' v (.kn ds) := hv
      refine r2.ret.2 v (show T.Is F' v (.tup ds) from ?_)
      cases hv with
      | kn h hd ha hs => exact .ktupZ h ha hs
      | obj h ho => cases ho
    | _ => exact r2.2.elim
  | own d => exact r2.2.elim
  | slot i => exact r2.2.elim
end
end DL
namespace DL
open PySem PySem.Spec PyProof.Rows L2 LamX
section
variable {X : Cx} {pins : List (Addr × Obj)} {σ : L2.St} {H : Hp} {s : Shared}
inductive Made (F H : Hp) (P : Addr) (q : Str) (c' : Addr) : Hp → Prop
  | old (h : F c' = some (CodeO c' q)) : Made F H P q c' H
  | new (ps : Array Value) (pos : Pos) (hP : H P = some (.tbl ps)) (hc : H c' = none) : Made F H P q c' (upd (upd H P (.tbl (ps ++ #[rawInt pos.line, rawInt pos.col, .ref c']))) c' (CodeO c' q))
theorem lam_make3 {P c : Addr} {params : Arguments} {body : Expr} {scope : Scope} {pos : Pos} {E : Value → Shared → Prop} {Q : Value → Shared → Prop} (I : Inv X pins σ H s) (TB : TabB X.base X.mg c P) (hcode : X.env.code = .ref c)
    {F : Hp} (hT : ∃ ps : Array Value, H P = some (.tbl ps) ∧ PySem.TriplesOk ps.toList ∧ ∀ (pos : Pos) (cv : Value), PySem.codeAmong pos ps.toList = some cv → ∃ c, cv = .ref c ∧ F c = some (CodeO c (X.env.qual ++ "<lambda>"))) (hdef : defaultsOf params X.env = ([], [])) (hfree : ∀ y ∈ scope.names, y.2 = .free → ∃ c, X.env.cells.lookup y.1 = some c)
    (h : ∀ (f c' : Addr) (pm ctv : Value) (H1 : Hp) (s' : Shared), Inv X pins σ H1 s' → Made F H P (X.env.qual ++ "<lambda>") c' H1 →
      s'.heap.get? f = some (PySem.W.kla_obj "<lambda>" (X.env.qual ++ "<lambda>") params body scope (cloFrom X.env.cells scope.names []) pm c' ctv) → H1 f = none → f ∉ frs X.stack → Q (.ref f) s') :
    wpAny (model X.prog X.w) X.A (eval (.Lambda params body scope pos) X.env) Q E s := by
  obtain ⟨ps, hP, ht, ha⟩ := hT
  refine PySem.W.kla_eval hdef ?_
  have bP : s.heap.BuiltinsAt X.mg P := TB.bm.keeps I.bk
  have hP' : s.heap.get? P = some { cls := .none, data := .fields ps } := I.hok P _ hP
  have nofr : ∀ f, s.heap.objs.size ≤ f → f ∉ frs X.stack := fun f hf z => by
    rcases List.mem_cons.mp (I.stkSub _ z) with e | e
    · have h1 := I.lt
      rw [← e] at h1
      exact Nat.lt_irrefl _ (Nat.lt_of_lt_of_le h1 hf)
    · exact I.nofs hf e
  cases hc : codeAmong pos ps.toList with
  | none =>
    refine PySem.W.kla_makeFunction (mg := X.mg) (c := c) (P := P) (ps := ps) (closure_ok hfree) I.ok.glob (I.mod.glob.keeps I.bk) hcode (TB.code.keeps I.bk) hP' ht hc TB.gP bP fun c' ctv h' tk hx hge hlt hrec htb => ?_
    obtain ⟨c2, oc, vs, t, e2, hoc, hd, hv⟩ := hrec
    cases e2
    have hsz : s.heap.objs.size ≤ h'.objs.size := Nat.le_trans hge (Nat.le_of_lt hlt)
    have nC : H c' = none := I.hok.fresh hge
    have I1 := inv_table (t' := tk) (more := #[rawInt pos.line, rawInt pos.col, .ref c']) (h' := h'.push (PySem.W.kla_obj "<lambda>" (X.env.qual ++ "<lambda>") params body scope (cloFrom X.env.cells scope.names []) ((X.mg "__name__").getD .none) c' ctv)) I hP
      (fun b o hb e => Heap.get?_push_of_some _ (hx b o hb e)) (Heap.get?_push_of_some _ htb) hge ⟨oc, vs, t, Heap.get?_push_of_some _ hoc, hd, hv⟩
    refine h h'.objs.size c' ((X.mg "__name__").getD .none) ctv _ _ I1 (.new ps pos hP nC) (Heap.get?_push_size _ rfl) ?_ (nofr _ hsz)
    rw [upd_ne (Nat.ne_of_gt hlt), upd_ne (Nat.ne_of_gt (Nat.lt_of_lt_of_le (Heap.lt_size hP') hsz))]
    exact I.hok.fresh hsz
  | some cv =>
    obtain ⟨c', e, hco⟩ := ha pos cv hc
    subst e
    refine PySem.W.kla_makeFunctionHit (mg := X.mg) (c := c) (P := P) (ps := ps) (closure_ok hfree) I.ok.glob (I.mod.glob.keeps I.bk) hcode (TB.code.keeps I.bk) hP' ht hc bP fun ctv h' tk hx hsz => ?_
    have I1 : Inv X pins σ H { s with heap := h'.push (PySem.W.kla_obj "<lambda>" (X.env.qual ++ "<lambda>") params body scope (cloFrom X.env.cells scope.names []) ((X.mg "__name__").getD .none) c' ctv), toks := tk } := I.kept fun b o e => Heap.get?_push_of_some _ (hx b o e)
    exact h h'.objs.size c' ((X.mg "__name__").getD .none) ctv H _ I1 (.old hco) (Heap.get?_push_size _ rfl) (I.hok.fresh hsz) (nofr _ hsz)
end
theorem Made.sat {K : PySem.W.Frag} {cm : CM} {io : Option Addr} {B F0 F : Hp} {Γ : List Sl} {σ : St} {H H1 : Hp} {P c' : Addr} {q : Str} (m : Made F H P q c' H1) (S : Sat K cm io B F0 F Γ σ H) (hmT : (P, q) ∈ cm.tabs) (hu : ∀ p ∈ cm.tabs, p.1 = P → p.2 = q) :
    ∃ F1, Same F F1 ∧ F1 c' = some (CodeO c' q) ∧ Sat K cm io B F0 F1 Γ σ H1 := by
  cases m with
  | old hc => exact ⟨F, .refl _, hc, S⟩
  | new ps pos hP hc =>
    have hF : F c' = none := S.fh.free hc
    have nP : P ≠ c' := ne_of_none hP hc
    have at_ : ∀ {b : Addr} {o : HO}, b ≠ P → b ≠ c' → (upd (upd H P (.tbl (ps ++ #[rawInt pos.line, rawInt pos.col, .ref c']))) c' (CodeO c' q)) b = H b := fun h1 h2 => by rw [upd_ne h2, upd_ne h1]
    have atP : (upd (upd H P (.tbl (ps ++ #[rawInt pos.line, rawInt pos.col, .ref c']))) c' (CodeO c' q)) P = some (.tbl (ps ++ #[rawInt pos.line, rawInt pos.col, .ref c'])) := by rw [upd_ne nP, upd_same]
    have t : Step cm F H (upd F c' (CodeO c' q)) (upd (upd H P (.tbl (ps ++ #[rawInt pos.line, rawInt pos.col, .ref c']))) c' (CodeO c' q)) := by
      refine ⟨fun b o e => ?_, .up hF, fun b o e => ?_, fun b o e => ?_, fun t => ⟨fun b ps' e => ?_, fun b o e => ?_, fun p hp => ?_⟩⟩
      · by_cases hb : b = P
        · subst hb
          rw [hP] at e; cases e
          exact .inr ⟨rfl, _, atP⟩
        · exact .inl (by rw [at_ (o := o) hb (ne_of_none e hc)]; exact e)
      · by_cases hb : b = c'
        · subst hb
          rw [upd_same] at e ⊢; exact e
        · rw [upd_ne hb] at e
          have hbP : b ≠ P := fun z => by
            subst z
            have := S.fh _ _ e
            rw [hP] at this; cases this
            have := S.tb.nof _ _ e
            cases this
          rw [at_ (o := o) hbP hb]
          exact S.fh _ _ e
      · by_cases hb : b = c'
        · subst hb; exact .inr hc
        · rw [upd_ne hb] at e; exact .inl e
      · by_cases hb : b = c'
        · subst hb
          rw [upd_same] at e
          exact absurd (Option.some.inj e) (codeO_ne ps')
        · by_cases hbP : b = P
          · subst hbP; exact ⟨q, hmT⟩
          · rw [at_ (o := .tbl ps') hbP hb] at e
            exact t.all b ps' e
      · exact (upd_nof (o := CodeO c' q) rfl e).elim (t.nof b o) id
      · obtain ⟨ps0, h1, h2, h3⟩ := t.tab p hp
        by_cases hpP : p.1 = P
        · have hq := hu p hp hpP
          rw [hpP, hP] at h1; cases h1
          have eL : (ps ++ #[rawInt pos.line, rawInt pos.col, .ref c']).toList = ps.toList ++ [rawInt pos.line, rawInt pos.col, .ref c'] := by simp
          refine ⟨_, by rw [hpP]; exact atP, by rw [eL]; exact PySem.TriplesOk_snoc _ _ _ _ h2, fun pos' cv hcv => ?_⟩
          rw [eL] at hcv
          rcases among_app _ h2 hcv with z | z
          · obtain ⟨c0, e1, e2⟩ := h3 pos' cv z
            exact ⟨c0, e1, Same.up hF _ _ e2⟩
          · exact ⟨c', z, by rw [hq]; exact upd_same⟩
        · refine ⟨ps0, by rw [at_ (o := .tbl ps0) hpP (ne_of_none h1 hc)]; exact h1, h2, fun pos' cv hcv => ?_⟩
          obtain ⟨c0, e1, e2⟩ := h3 pos' cv hcv
          exact ⟨c0, e1, Same.up hF _ _ e2⟩
    exact ⟨_, t.ff, upd_same, S.step t⟩
def capt : List Nat → List Sl → Option (List D)
  | [], _ => some []
  | i :: is, Γ => match Γ[i]? with
    | some (.dat d) => (capt is Γ).map (d :: ·)
    | _ => none
def putL : List Nat → List D → List Sl → List Sl
  | i :: is, d :: ds, Γ => (putL is ds Γ).set i (.dat d)
  | _, _, Γ => Γ
def frz : List Nat → List Sl → List Sl
  | [], Γ => Γ
  | i :: is, Γ => frz is (match Γ[i]? with
    | some (.own d) => Γ.set i (.dat d)
    | _ => Γ)
def CapV (σ : St) : List Nat → List V → Prop
  | [], [] => True
  | i :: is, v :: vs => σ[i]? = some (some v) ∧ CapV σ is vs
  | _, _ => False
section
variable {K : PySem.W.Frag} {cm : CM} {io : Option Addr} {B F0 F : Hp} {Γ : List Sl} {σ : St} {H : Hp}
theorem frz_sat : ∀ (is : List Nat) {F : Hp} {Γ : List Sl}, Sat K cm io B F0 F Γ σ H → ∃ F1, Same F F1 ∧ Sat K cm io B F0 F1 (frz is Γ) σ H
  | [], F, Γ, S => ⟨F, .refl _, S⟩
  | i :: is, F, Γ, S => by
    have key : ∃ F1, Same F F1 ∧ Sat K cm io B F0 F1 (match Γ[i]? with | some (.own d) => Γ.set i (.dat d) | _ => Γ) σ H := by
      rcases e : Γ[i]? with _ | sl
      · exact ⟨F, .refl _, S⟩
      · cases sl with
        | un => exact ⟨F, .refl _, S⟩
        | dat d => exact ⟨F, .refl _, S⟩
        | own d =>
          obtain ⟨a, ho, F', _, _, _, g4, _, g6⟩ := S.frSlot e
          exact ⟨F', g4, g6⟩
    obtain ⟨F1, q1, S1⟩ := key
    obtain ⟨F2, q2, S2⟩ := frz_sat is S1
    exact ⟨F2, q1.trans q2, S2⟩
theorem capt_is (S : Sat K cm io B F0 F Γ σ H) : ∀ (is : List Nat) (ds : List D), capt is Γ = some ds → ∃ vs, IsAll K cm F vs ds ∧ CapV σ is vs
  | [], ds, h => by cases h; exact ⟨[], .nil, trivial⟩
  | i :: is, ds, h => by
    unfold capt at h
    split at h
    · rename_i d e
      rcases q : capt is Γ with _ | ds'
      · rw [q] at h; cases h
      · rw [q] at h; cases h
        obtain ⟨v, h1, h2⟩ := S.dt i d e
        obtain ⟨vs, h3, h4⟩ := capt_is S is ds' q
        exact ⟨v :: vs, .cons h2 h3, h1, h4⟩
    · cases h
theorem put_len : ∀ (is : List Nat) (ds : List D) (Γ : List Sl), (putL is ds Γ).length = Γ.length
  | [], _, _ => rfl
  | _ :: _, [], _ => rfl
  | i :: is, d :: ds, Γ => by
    show ((putL is ds Γ).set i (.dat d)).length = _
    rw [List.length_set, put_len is ds Γ]
theorem put_dt : ∀ (is : List Nat) {vs : List V} {ds : List D} {n : Nat}, IsAll K cm F vs ds → CapV σ is vs → (∀ (i : Nat) (d : D), (putL is ds (List.replicate n .un))[i]? = some (.dat d) → ∃ v, σ[i]? = some (some v) ∧ Is K cm F v d) ∧ ∀ (i : Nat) (d : D), (putL is ds (List.replicate n .un))[i]? ≠ some (.own d)
  | [], vs, ds, n, i, c => by
    have key : ∀ (j : Nat) (sl : Sl), (List.replicate n Sl.un)[j]? = some sl → sl = .un := fun j sl e => by
      rw [List.getElem?_replicate] at e
      split at e
      · cases e; rfl
      · cases e
    refine ⟨fun j d e => ?_, fun j d e => ?_⟩
    · have := key j _ e; cases this
    · have := key j _ e; cases this
  | k :: is, [], ds, n, i, c => c.elim
  | k :: is, v :: vs, [], n, i, c => by cases i
  | k :: is, v :: vs, d :: ds, n, i, c => by
    cases i with
    | cons i1 i2 =>
      obtain ⟨h1, h2⟩ := put_dt is (n := n) i2 c.2
      refine ⟨fun j e he => ?_, fun j e he => ?_⟩
      · rcases get_set he with ⟨rfl, _, q⟩ | ⟨_, q⟩
        · cases q; exact ⟨v, c.1, i1⟩
        · exact h1 j e q
      · rcases get_set he with ⟨_, _, q⟩ | ⟨_, q⟩
        · cases q
        · exact h2 j e q
theorem put_sat {is : List Nat} {vs : List V} {ds : List D} (fh : Same F H) (tb : TabsF cm F H) (i : IsAll K cm F vs ds) (c : CapV σ is vs) : Sat K cm none H F F (putL is ds (List.replicate σ.length .un)) σ H := by
  obtain ⟨h1, h2⟩ := put_dt is (n := σ.length) i c
  exact ⟨fh, .refl _, tb, .refl _, fun p o e => .inl e, by rw [put_len, List.length_replicate], h1, fun j d e => absurd e (h2 j d), fun j k d e a g1 => absurd g1 (h2 j d), fun a z => by cases z⟩
end
end DL
namespace DL
open PySem PySem.Spec PyProof.Rows L2 LamX
abbrev Tx.lamX (T : Tx) (A : Around) (outer : List Env) (s : Shared) (H : Hp) (E : XK) (scope : Scope) (f c' : Addr) : Tx :=
  { X := lamCx T.X A outer s H E scope f c', cm := T.cm, W := fun cls d _ H => E cls d H, io := none }
section
variable {X : Cx} {pins : List (Addr × Obj)} {σ : L2.St} {H HZ : Hp} {s s1 : Shared}
theorem pe_actE {CXg : CXT} {Eg : XK} {Ng : List Str} {qg : Str} {sg : Scope} {g f c' : Addr} {cdg pm ctv : Value} {params : Arguments} {body : Expr} {scope : Scope} {k i : Nat} {a : Str} {pn : List (Addr × Obj)} {xe : Value → Shared → Prop} {W : WX} {tb : XK → TE} {p1 p2 : Pos}
    (I : Inv X pins σ H s) (L : LamS X.env.scope scope) (hf : s.heap.get? f = some (PySem.W.kla_obj "<lambda>" (X.env.qual ++ "<lambda>") params body scope (cloFrom X.env.cells scope.names []) pm c' ctv)) (hfn : H f = none) (hfr : f ∉ frs X.stack)
    (hbind : bindArgs (PySem.W.kla_fn "<lambda>" (X.env.qual ++ "<lambda>") params body scope (cloFrom X.env.cells scope.names []) pm (.ref c') ctv) ⟨[], []⟩ = pure [])
    (tk : Takes ((cxOf CXg X.prog X.w X.K X.mg X.base Ng qg sg g cdg X.A X.stack s H Eg).tr pn xe) W) (hr : Room (k + 1) (X.A.deeper (envOfC qg sg s.heap.objs.size g cdg)))
    (hbody : ∀ (A : Around) (outer : List Env) (s : Shared) (H : Hp) (E : XK), Room k (A.deeper (lamEnv X scope s.heap.objs.size f c')) → A.guards = X.A.guards → PE (lamCx X A outer s H E scope f c') body (tb E))
    (hN : Ng[i]? = some a) (hv : Vis sg a) (hd : (a == ("__debug__" : Str)) = false := by decide) (hcd : (a == ("__classdict__" : Str)) = false := by decide) :
    PE ((cxOf CXg X.prog X.w X.K X.mg X.base Ng qg sg g cdg X.A X.stack s H Eg).tr pn xe) (.Call (.Name a p1) [] [] p2)
      (fun σZ HZ Q => σZ[i]? = some (some (.ref f)) ∧ HZ c' = some (CodeO c' (X.env.qual ++ "<lambda>")) ∧ tb (WE W σZ) σ HZ Q) := by
  refine ⟨fun pinsZ sZ σZ HZ Q IZ h => ?_⟩
  obtain ⟨hs, hc, ht⟩ := h
  refine wpAny_Call_Name_kw (thn ((pe_var (pos := p1) (i := i) hN hv hd hcd).run pinsZ sZ σZ HZ (fun v H1 => v = .ref f ∧ H1 = HZ) IZ ⟨.ref f, hs, rfl, rfl⟩) fun u s1 ⟨v, H1, I1, r1, q1⟩ => ?_)
  obtain ⟨ev, eH⟩ := q1
  subst ev
  rw [eH] at I1
  obtain rfl : u = Value.ref f := r1
  have of1 : s1.heap.get? f = some (PySem.W.kla_obj "<lambda>" (X.env.qual ++ "<lambda>") params body scope (cloFrom X.env.cells scope.names []) pm c' ctv) := I1.base.keep f _ hf hfn hfr (fun z => nomatch (show f ∈ ([] : List Addr) from z))
  refine PySem.W.callWith_F0 ⟨_, _, _, _, of1⟩ ?_
  have un : Un (frs X.stack) [] H HZ s.heap s1.heap := I1.base
  obtain ⟨⟨oc, vs, t, hoc, hdc, hvc⟩, _, _⟩ := I1.hok c' _ hc
  have rc : codeAny (model X.prog X.w) (X.A.deeper (envOfC qg sg s.heap.objs.size g cdg)) (.call (.ref f) ⟨[], []⟩) (CR (L2.CX X.prog X.w) (envOfC qg sg s.heap.objs.size g cdg :: X.stack) X.prog X.w HZ s1 Q (WE W σZ)) s1 := by
    refine PySem.W.kla_callFunE hr.depth of1 rfl L.co L.gen rfl ⟨c', oc, vs, t, rfl, hoc, hdc, hvc⟩ ?_
    rw [hbind]
    refine wpAny_pure (wpAny_newFunctionEnv (fun y hy => (L.own y hy).2) (fun y hy => absurd hy (by simp)) (fun h₁ hns hsb => ⟨I1.nolimit.fresh _ hsb, ?_⟩) L.kind)
    have kp : ∀ b o, s1.heap.get? b = some o → h₁.get? b = some o := fun b o e => hsb.extBut b o (Nat.ne_of_lt (Heap.lt_size e)) (Heap.get?_push_of_some _ e)
    have J : Inv (lamCx X (X.A.deeper (envOfC qg sg s.heap.objs.size g cdg)) (envOfC qg sg s.heap.objs.size g cdg :: X.stack) s1 HZ (WE W σZ) scope f c') [] σ HZ { s1 with heap := h₁, toks := s1.toks + ([] : List (Str × Value)).length } :=
      lam_start2 I L I1.env0 hr.hd un hns kp
    refine PySem.W.kla_codeExpr (wpAny_mono ((hbody _ _ s1 HZ (WE W σZ) (hr.deeper _) rfl).run [] _ _ HZ Q J ht) (fun v s' hq => ?_) fun e s' hq => hq)
    obtain ⟨w', H', J', rv, q⟩ := hq
    exact ⟨w', H', J'.os, J'.bare, J'.base, J'.hok, rv, q⟩
  refine wpAny_call (codeAny_mono rc fun r s' hq => ?_)
  cases r with
  | error e => exact passAt tk σZ pinsZ HZ s1 e s' I1 hq
  | ok fl =>
    cases fl with
    | ret u => exact I1.after hq
    | next => exact False.elim hq
    | brk => exact False.elim hq
    | cont => exact False.elim hq
end
def outL (cb : M Rf) (Γ : List Sl) : Option Ans := match cb Γ with
  | some (.ok (.dat d), _) => some (.ok (.dat d))
  | some (.ok (.own d), _) => some (.ok (.own d))
  | some (.error e, _) => some (.error e)
  | _ => none
open Classical in
noncomputable def sAct (d0 : D) (o : Ans) : M Rf := fun Γ => if Γ[0]? = some (.dat d0) then liftX (some o) Γ else none
theorem sAct_ok (d0 : D) (o : Ans) (Γ : List Sl) : sAct d0 o (.dat d0 :: Γ) = liftX (some o) (.dat d0 :: Γ) := if_pos rfl
open Classical in
noncomputable def anyD (φ : D → Option Ans) : Option Ans := if h : ∃ r, ∀ d0, φ d0 = some r then some h.choose else none
theorem anyD_eq {φ : D → Option Ans} {r : Ans} (h : ∀ d0, φ d0 = some r) : anyD φ = some r := by
  have ex : ∃ r, ∀ d0, φ d0 = some r := ⟨r, h⟩
  have e : anyD φ = some ex.choose := dif_pos ex
  rw [e]
  have := ex.choose_spec .non
  rw [h .non] at this
  exact this.symm
theorem anyD_all {φ : D → Option Ans} {r : Ans} (h : anyD φ = some r) (d0 : D) : φ d0 = some r := by
  unfold anyD at h
  split at h
  · rename_i ex
    cases h
    exact ex.choose_spec d0
  · cases h
noncomputable def sLam (is : List Nat) (cb : M Rf) (FL : D → Ans → Option Ans) : M Rf := fun Γ => match capt is (frz is Γ) with
  | none => none
  | some ds => match outL cb (putL is ds (List.replicate Γ.length .un)) with
    | none => none
    | some o => liftX (anyD fun d0 => FL d0 o) (frz is Γ)
structure DefL (P : Program) (w : World) (K : PySem.W.Frag) (mg : Str → Option Value) (base : Heap) (cm : CM) (k : Nat) (x : Str) (FL : D → Ans → Option Ans) : Prop where
  ex : ∃ (g : Addr) (st : Stmt) (Ng : List Str) (a : Str) (fd : FuncData) (cL : D → Ans → M Fl), mg x = some (.ref g) ∧ PySem.W.keepIn K (.ref g) = true ∧ Fun K x x st g fd ∧ L2.Binds K fd [a] [] ∧ FnScope Ng [a] (defScope st) ∧ Ng[0]? = some a ∧ Vis (defScope st) a ∧
    ((a == ("__debug__" : Str)) = false ∧ (a == ("__classdict__" : Str)) = false) ∧ (∀ d0 o, FL d0 o = runDef Ng.length (cL d0 o) [d0]) ∧
    ∀ (cdv : Value) (A : Around) (outer : List Env) (s : Shared) (H : Hp) (E : XK) (d0 : D) (o : Ans), Cok (dtx P w K mg base cm Ng x (defScope st) g cdv A outer s H E none) k →
      (∀ (W : WX) (pn : List (Addr × Obj)) (xe : Value → Shared → Prop) (p1 p2 : Pos), Cok ((dtx P w K mg base cm Ng x (defScope st) g cdv A outer s H E none).tr W pn xe) k → RE ((dtx P w K mg base cm Ng x (defScope st) g cdv A outer s H E none).tr W pn xe) (.Call (.Name a p1) [] [] p2) (sAct d0 o)) →
      RSs (dtx P w K mg base cm Ng x (defScope st) g cdv A outer s H E none) (defBody st) (cL d0 o)
theorem cok_lam {T : Tx} {A : Around} {outer : List Env} {s : Shared} {H : Hp} {E : XK} {scope : Scope} {f c' : Addr} {k j : Nat} (c : Cok T j) (hr : Room k (A.deeper (lamEnv T.X scope s.heap.objs.size f c'))) (hg : A.guards = some []) : Cok (T.lamX A outer s H E scope f c') k :=
  ⟨hr, hg, rfl, c.nd, takes_of rfl rfl rfl rfl, passes_of rfl, c.wc⟩
theorem re_lam {T : Tx} {x : Str} {FL : D → Ans → Option Ans} {is : List Nat} {cb : M Rf} {n kc kb : Nat} {c P : Addr} {params : Arguments} {body : Expr} {scope : Scope} {p lpos pos : Pos}
    (G : DefL T.X.prog T.X.w T.X.K T.X.mg T.X.base T.cm kc x FL) (ck : Cok T (n + 1)) (h1 : kc ≤ n) (h2 : kb + 1 ≤ n) (TB : TabB T.X.base T.X.mg c P) (hmT : (P, T.X.env.qual ++ "<lambda>") ∈ T.cm.tabs) (hu : ∀ p ∈ T.cm.tabs, p.1 = P → p.2 = T.X.env.qual ++ "<lambda>")
    (hbody : ∀ (A : Around) (outer : List Env) (s : Shared) (H : Hp) (E : XK) (f c' : Addr), Cok (T.lamX A outer s H E scope f c') kb → RE (T.lamX A outer s H E scope f c') body cb)
    (hcode : T.X.env.code = .ref c := by rfl) (L : lamSB T.X.env.scope scope = true := by decide +kernel) (hdef : defaultsOf params T.X.env = ([], []) := by rfl)
    (hbind : ∀ (q : Str) (cl : List (Str × Addr)) (pm cv ctv : Value), bindArgs (PySem.W.kla_fn "<lambda>" q params body scope cl pm cv ctv) ⟨[], []⟩ = pure [] := by intros; rfl)
    (hg : Gl T.X x := by rfl) (hdb : (x == ("__debug__" : Str)) = false := by decide) : RE T (.Call (.Name x p) [.Lambda params body scope lpos] [] pos) (sLam is cb FL) := fun B F0 => by
  obtain ⟨g, st, Ng, a, fd, cL, hm, hk, Fu, hb, Sg, hNg, hva, ⟨hd, hcd⟩, hFL, hG⟩ := G.ex
  obtain ⟨oc, od, kV, doc, pm, an, cdv, ct, osl, rfl, lk, hcg⟩ := Fu.ex
  have L := lamS_by L
  refine ⟨fun pins s σ H Q I ⟨F, Γ, S, r⟩ => ?_⟩
  unfold sLam at r
  obtain ⟨F1, q1, S1⟩ := frz_sat is S
  rcases hds : capt is (frz is Γ) with _ | ds
  · simp only [hds] at r
  simp only [hds] at r
  rcases ho : outL cb (putL is ds (List.replicate Γ.length .un)) with _ | o
  · simp only [ho] at r
  simp only [ho] at r
  obtain ⟨vs, ia, cv⟩ := capt_is S1 is ds hds
  refine wpAny_Call_Name_kw (ld_glob I hg hm ?_ hdb)
  refine PySem.W.callWith_K (h₀ := T.X.base) I.ok.mod.kin hk ?_ (by rfl) (by rfl)
  show wpAny _ _ (spliced ((false, eval (.Lambda params body scope lpos) T.X.env) :: backTo pos (starEach [] T.X.env))) _ _ s
  refine Calls.spliced_cons (lam_make3 (F := F1) I TB hcode (S1.tb.tab _ hmT) hdef (L.has I.ok) fun f c' pm' ctv H1 s' I1 mH hf hfn hfr => ?_)
  refine Calls.spliced_nil ⟨I1.kIn, ?_⟩
  obtain ⟨F2, q2, hco, S2⟩ := mH.sat S1 hmT hu
  have r' : Run T B F0 (liftX (anyD fun d0 => FL d0 o)) F2 (frz is Γ) σ H1 fun r F' Γ' H' => ∀ v, IsRf T.X.K T.cm B F' Γ' σ H' v r → Q v H' := by
    refine ⟨S2, ?_⟩
    rcases e : liftX (anyD fun d0 => FL d0 o) (frz is Γ) with _ | ⟨x0 | r0, Γ'⟩
    · rw [e] at r; exact r
    · rw [e] at r
      exact fun F' H' cls dx q S' ie => r F' H' cls dx ((q1.trans q2).trans q) S' ie
    · rw [e] at r
      exact fun F' H' q S' => r F' H' ((q1.trans q2).trans q) S'
  obtain ⟨r0, e0, hres⟩ := r'.liftX
  have e1 : FL (.lam f c' (T.X.env.qual ++ "<lambda>") vs ds) o = some r0 := anyD_all e0 _
  rw [hFL] at e1
  have hsp : spD T.X.K T.cm 1 (runDef Ng.length (cL (.lam f c' (T.X.env.qual ++ "<lambda>") vs ds) o)) [.ref f] H1 Q (WE T.W σ) :=
    ⟨F2, [.lam f c' (T.X.env.qual ++ "<lambda>") vs ds], r0, rfl, S2.ft, .cons (.lam hco (ia.mono q2 _)) .nil, e1, hres⟩
  have rc : codeAny (model T.X.prog T.X.w) T.X.A (.call (.ref g) ⟨[.ref f], []⟩) (CR (L2.CX T.X.prog T.X.w) T.X.stack T.X.prog T.X.w H1 s' Q (WE T.W σ)) s' := by
    refine run_ofS (N := Ng) (ps := [a]) (us := [.ref f]) (vs := [.ref f]) lk hcg Sg (k := n) ck.room I1.env0 (hb s' [.ref f] I1.kIn rfl) (.cons rfl .nil) rfl fun hr' => ?_
    haveI : WC T.cm T.X.w := ⟨ck.wc⟩
    refine body_pure (k := n) Sg (fun ckg => ?_) hr' ck.grd hsp
    refine hG cdv T.X.A T.X.stack s' H1 (WE T.W σ) _ o (ckg.mono h1) fun W pn xe p1 p2 ckt B' F0' => ?_
    let tl : XK → Tx := fun E => T.lamX T.X.A [] s H E scope f c'
    have act := pe_actE (X := T.X) (CXg := L2.CX T.X.prog T.X.w) (Eg := WE T.W σ) (Ng := Ng) (qg := x) (sg := defScope st) (g := g) (cdg := cdv) (k := kb) (i := 0) (a := a) (pn := pn) (xe := xe) (W := W) (p1 := p1) (p2 := p2)
      (tb := fun E σ' H' Q' => ∃ B0 F00, tS (tl E) B0 F00 cb σ' H' Q') I1 L hf hfn hfr (hbind _ _ _ _ _) ckt.tk (hr'.mono h2)
      (fun A outer s0 H0 E hrl hgl => ⟨fun pins0 s2 σ0 H2 Q0 I0 ⟨B0, F00, h0⟩ => (hbody A outer s0 H0 E f c' (cok_lam ck hrl (hgl.trans ck.grd)) B0 F00).run pins0 s2 σ0 H2 Q0 I0 h0⟩) hNg hva hd hcd
    refine act.weak fun σZ HZ QZ ⟨FZ, ΓZ, SZ, rZ⟩ => ?_
    unfold sAct at rZ
    by_cases h0 : ΓZ[0]? = some (.dat (.lam f c' (T.X.env.qual ++ "<lambda>") vs ds))
    · rw [if_pos h0] at rZ
      obtain ⟨v, g1, g2⟩ := SZ.dt 0 _ h0
      cases g2 with
      | obj _ ho => cases ho
      | lam g3 g4 =>
        refine ⟨g1, SZ.fh _ _ g3, HZ, FZ, FZ, putL is ds (List.replicate Γ.length .un), ?_, ?_⟩
        · have eN : Γ.length = σ.length := S.len
          rw [eN]
          exact put_sat SZ.fh SZ.tb g4 cv
        · have step : ∀ {F' : Hp} {Γ' : List Sl} {H' : Hp}, (tl (WE W σZ)).Sat HZ FZ F' Γ' σ H' → Step T.cm FZ HZ F' H' := fun S => ⟨S.bh, S.f0, S.fh, S.nw, fun _ => S.tb⟩
          unfold outL at ho
          rcases eb : cb (putL is ds (List.replicate Γ.length .un)) with _ | ⟨x0 | r1, Γ'⟩
          · rw [eb] at ho; cases ho
          · rw [eb] at ho
            cases ho
            exact fun F' H' cls dx q S' ie => rZ F' H' cls dx q (SZ.step (step S')) ie
          · rw [eb] at ho
            cases r1 with
            | dat d =>
              cases ho
              exact fun F' H' q S' v hv => rZ F' H' q (SZ.step (step S')) v hv
            | own d =>
              cases ho
              refine fun F' H' q S' v hv => rZ F' H' q (SZ.step (step S')) v ?_
              obtain ⟨b, hob, rfl, k1, k2, k3, k4, _⟩ := hv
              refine ⟨b, hob, rfl, k1, SZ.bh.free k2, k3, k4, fun j e' hj hs => ?_⟩
              obtain ⟨a', ho', m1, _, _, m4, _⟩ := SZ.ow j e' hj
              rw [m1] at hs; injection hs with hs; injection hs with hs; injection hs with hs; subst hs
              rw [k2] at m4; cases m4
            | slot j => cases ho
    · rw [if_neg h0] at rZ
      exact rZ.elim
  refine wpAny_call (codeAny_mono rc fun r s2 hq => ?_)
  cases r with
  | error e => exact passAt ck.tk σ pins H1 s' e s2 I1 hq
  | ok fl =>
    cases fl with
    | ret u => exact I1.after hq
    | next => exact False.elim hq
    | brk => exact False.elim hq
    | cont => exact False.elim hq
end DL
namespace DL
open PySem PySem.Spec PyProof.Rows L2
end DL
namespace DL
open PySem PySem.Spec PyProof.Rows L2
section
variable {T : Tx} {x : Str} {body : List Stmt} {np pos pos' p2 p3 : Pos} {cb : M Fl} {k : Nat}
end
end DL
namespace DL
open PySem L2 PyProof.Rows
section
variable {X : Cx} {n : Str} {cs : List Value} {i kn : Nat} {es : List Expr} {body suite : List Stmt} {b₀ : Stmt} {np pos pos' : Pos} {tb : WX → TS} {ts : Addr → Value → Option Addr → TS} {Wout : WX}
end
section
variable {T : Tx} {n y : Str} {es : List Expr} {kn : Nat} {body : List Stmt} {np pos pos' p1 p2 p3 : Pos} {cb : M Fl} {k : Nat}
end
end DL
namespace DL
open PySem PySem.Spec PyProof.Rows L2
def strIF : List D → Option Rf
  | [.int i] => if i.natAbs.log2 < 1920 then some (.dat (.str (Str.ofString (toString i)))) else none
  | _ => none
section
variable {T : Tx} {o : Expr} {co : M Rf} {pos apos : Pos}
theorem call_strIF : CallD T (.type "str") strIF := by
  intro pins s σ H vs us Q I r ⟨F, ds, fh, at_, h⟩
  match ds, at_, h with
  | [.int i], at_, h =>
    obtain ⟨v, rfl, iv⟩ := at_.one
    simp only [strIF] at h
    split at h
    · rename_i hl
      obtain ⟨u, rfl, rx⟩ := vals1 r
      have hx := iv.int
      subst hx
      exact call_str_int pins s σ H [.int i] [u] Q I r ⟨i, rfl, hl, h.val fh (.str _)⟩
    · exact h.elim
end
@[simp] theorem strIF_int (i : Int) : strIF [.int i] = if i.natAbs.log2 < 1920 then some (.dat (.str (Str.ofString (toString i)))) else none := rfl
end DL
namespace DL
open PySem PySem.Spec PyProof.Rows L2
end DL
namespace DL
open PySem L2 PyProof.Rows
section
variable {T : Tx} {e : Expr} {cs : M (List Rf)} {p pos p' pos' : Pos}
end
end DL
namespace DL
open PySem L2 PyProof.Rows PySem.W
abbrev IsZipX (h : Heap) (z TI TO : Addr) (f0 f1 : Value) : Prop := h.get? z = some { cls := .type "zip", dict := none, data := .fields #[f0, f1, .bool false, .ref TI, .ref TO], slots := #[] }
def Zst (h : Heap) (z TI TO : Addr) : Prop := ∃ f0 b, (f0 = Value.none ∨ ∃ a : Nat, f0 = rawInt a) ∧ IsZipX h z TI TO f0 (.bool b)
section
variable {prog : Program} {w : World} {A : Around} {E : Value → Shared → Prop} {s : Shared} {z TI TO i1 i2 : Addr} {fp1 fp2 : List Addr} {n1 n2 i : Nat} {P1 P2 : Nat → Value → Prop} {St1 St2 : Nat → Heap → Prop} {a1 a2 : Value}
theorem Zst.ty {h : Zst s.heap z TI TO} : s.TypeIs (.ref z) "zip" := by obtain ⟨_, _, _, q⟩ := h; exact ⟨_, q, rfl⟩
end
end DL
namespace DL
open PySem L2 PyProof.Rows PySem.W
section
variable {T : Tx} {e e2 : Expr} {cs : M (List D)} {p pos p' pos' tpos : Pos} {elts : List Expr} {kk : Nat}
end
end DL
namespace DL
open PySem L2 PyProof.Rows PySem.W
section
variable {T : Tx}
def dd2 (x y : Str) : D := .lst [.tup [.str x, .dic [] []], .tup [.str y, .dic [] []]]
def pE (x : Str) : PyData := .tuple [.str x, .dict []]
def p2 (x y : Str) : PyData := .list [pE x, pE y]
end
end DL
namespace Nap
open PySem L2 PyProof.Rows
open Sem (wp)
def stuckK : Resume → Sem PySem.Fin := fun _ => .unsupported ""
def kill : GenState → GenState
  | .suspended _ l c p fs cl => .suspended stuckK l c p fs cl
  | x => x
def isSusp : GenState → Bool
  | .suspended .. => true
  | _ => false
theorem kill_seen (x : GenState) : (kill x).seen = x.seen := by cases x <;> rfl
def Clean (fs : List Frame) : Prop := ∀ F ∈ fs, ∀ g k l c p, F ≠ .gen g k l c p
def Off (D : Nat → Prop) (fs : List Frame) : Prop := ∀ F ∈ fs, ∀ g k l c p, F = .gen g k l c p → ¬ D g
theorem Clean.nil : Clean [] := fun F hF => nomatch hF
theorem Off.nil {D : Nat → Prop} : Off D [] := fun F hF => nomatch hF
theorem Clean.ret {k : Result → Sem PySem.Fin} {h : Option Value} {g : Bool} {l kp : List Value} {c : Code} {p : Pos} {fs : List Frame} (x : Clean fs) : Clean (.ret k h g l c p kp :: fs) := fun F hF => by
  rcases List.mem_cons.mp hF with rfl | hF
  · intro _ _ _ _ _ z; cases z
  · exact x F hF
theorem Off.tail {D : Nat → Prop} {F : Frame} {fs : List Frame} (h : Off D (F :: fs)) : Off D fs := fun G hG => h G (List.mem_cons_of_mem _ hG)
structure Twin (D : Nat → Prop) (live : Nat → GenState) (a b : Array GenState) : Prop where
  sz : b.size = a.size
  dead : ∀ i, D i → isSusp (live i) = true ∧ a[i]? = some (kill (live i)) ∧ b[i]? = some (live i)
  rest : ∀ i, ¬ D i → b[i]? = a[i]?
  clean : ∀ i k l c p fs cl, ¬ D i → a[i]? = some (.suspended k l c p fs cl) → Clean fs
section
variable {D : Nat → Prop} {live : Nat → GenState} {a b : Array GenState}
theorem Twin.lt (t : Twin D live a b) {i : Nat} (h : D i) : i < a.size := (Array.getElem?_eq_some_iff.mp (t.dead i h).2.1).1
theorem set_ne {a : Array GenState} {g i : Nat} {x : GenState} (h : g ≠ i) : (a.setIfInBounds g x)[i]? = a[i]? := by
  rw [Array.getElem?_setIfInBounds_ne h]
theorem set_same {a : Array GenState} {g : Nat} {x : GenState} (h : g < a.size) : (a.setIfInBounds g x)[g]? = some x := by
  simp [h]
theorem set_out {a : Array GenState} {g : Nat} {x : GenState} (h : ¬ g < a.size) : (a.setIfInBounds g x)[g]? = none := by
  rw [Array.getElem?_eq_none]
  rw [Array.size_setIfInBounds]; omega
theorem Twin.set (t : Twin D live a b) {g : Nat} {x : GenState} (hg : ¬ D g) (hx : ∀ k l c p fs cl, x = .suspended k l c p fs cl → Clean fs) : Twin D live (a.setIfInBounds g x) (b.setIfInBounds g x) := by
  refine ⟨?_, fun i h => ?_, fun i h => ?_, fun i k l c p fs cl h e => ?_⟩
  · rw [Array.size_setIfInBounds, Array.size_setIfInBounds]; exact t.sz
  · have ne : g ≠ i := fun z => hg (z ▸ h)
    rw [set_ne ne, set_ne ne]
    exact t.dead i h
  · by_cases z : g = i
    · subst z
      by_cases hs : g < a.size
      · rw [set_same hs, set_same (by rw [t.sz]; exact hs)]
      · rw [set_out hs, set_out (by rw [t.sz]; exact hs)]
    · rw [set_ne z, set_ne z]
      exact t.rest i h
  · by_cases z : g = i
    · subst z
      by_cases hs : g < a.size
      · rw [set_same hs] at e
        exact hx k l c p fs cl (Option.some.inj e)
      · rw [set_out hs] at e; cases e
    · rw [set_ne z] at e
      exact t.clean i k l c p fs cl h e
theorem Twin.push (t : Twin D live a b) {c : Code} : Twin D live (a.push (.fresh c)) (b.push (.fresh c)) := by
  refine ⟨?_, fun i h => ?_, fun i h => ?_, fun i k l c' p fs cl h e => ?_⟩
  · rw [Array.size_push, Array.size_push, t.sz]
  · have lt := t.lt h
    obtain ⟨h1, h2, h3⟩ := t.dead i h
    refine ⟨h1, ?_, ?_⟩
    · rw [Array.getElem?_push, if_neg (by omega)]; exact h2
    · rw [Array.getElem?_push, if_neg (by rw [t.sz]; omega)]; exact h3
  · rw [Array.getElem?_push, Array.getElem?_push, t.sz, t.rest i h]
  · rw [Array.getElem?_push] at e
    split at e
    · cases e
    · exact t.clean i k l c' p fs cl h e
theorem Twin.seen (t : Twin D live a b) {g : Nat} {st : GenState} (q : a[g]? = some st) : ∃ st', b[g]? = some st' ∧ st'.seen = st.seen := by
  by_cases hd : D g
  · obtain ⟨_, d2, d3⟩ := t.dead g hd
    rw [q] at d2
    exact ⟨_, d3, by rw [Option.some.inj d2, kill_seen]⟩
  · exact ⟨st, by rw [t.rest g hd]; exact q, rfl⟩
def EndClean (e : End) : Prop := match e with
  | .ret _ => True
  | .susp _ _ _ _ _ _ fs => Clean fs
abbrev wg (s : Shared) (g : Array GenState) : Shared := { s with gens := g }
def Tw (D : Nat → Prop) (live : Nat → GenState) (M : Model) (Γ : Ctx) (p : Pos) (t : Sem PySem.Fin) (fs : List Frame) (s : Shared) (e : End) (s' : Shared) : Prop :=
  ∀ b, Twin D live s.gens b → Off D fs → ∃ b', Runs M Γ p t fs (wg s b) e (wg s' b') ∧ Twin D live s'.gens b' ∧ EndClean e
def napping (b : Array GenState) (i : Nat) : Prop := ∃ x, b[i]? = some x ∧ isSusp x = true
def napLive (b : Array GenState) (i : Nat) : GenState := (b[i]?).getD .running
theorem Twin.kept {g b b' : Array GenState} {i : Nat} {x : GenState} (t : Twin (napping b) (napLive b) g b') (h : b[i]? = some x) (hx : isSusp x = true) : b'[i]? = some x := by
  obtain ⟨_, _, d3⟩ := t.dead i ⟨x, h, hx⟩
  rw [d3]
  unfold napLive
  rw [h]; rfl
end
end Nap
namespace DL
open PySem L2 PyProof.Rows GenW
inductive GE where
  | cut
  | fin (r : Except D Fl) (Γ : List Sl)
abbrev MGn := Nat → List Sl → Option (List D × GE)
inductive GX where
  | cut | done | err (e : D)
abbrev Fg := List D → Nat → Option (List D × GX)
def cutH (h : Heap) (n : Nat) : Heap := { h with objs := h.objs.extract 0 n }
theorem cutH_get {h : Heap} {n b : Nat} : (cutH h n).get? b = if b < n then h.get? b else none := by
  unfold cutH Heap.get?
  show (match (h.objs.extract 0 n)[b]? with | some ⟨_, _, .freed, _⟩ => none | o => o) = _
  rw [Array.getElem?_extract]
  by_cases hb : b < n
  · rw [if_pos hb]
    by_cases hs : b < h.objs.size
    · rw [if_pos (by omega), Nat.zero_add]; rfl
    · have e : h.objs[b]? = none := Array.getElem?_eq_none (by omega)
      rw [if_neg (by omega), e]
  · rw [if_neg (by omega), if_neg hb]
theorem cutH_of {h : Heap} {n : Nat} {b : Addr} {o : Obj} (hb : b < n) (e : h.get? b = some o) : (cutH h n).get? b = some o := by
  rw [cutH_get, if_pos hb]; exact e
end DL
namespace DL
open PySem L2 PyProof.Rows GenW
structure GPr where
  P : Program
  w : World
  K : PySem.W.Frag
  mg : Str → Option Value
  base : Heap
  cm : CM
  N : List Str
  ps : List Str
  qual : Str
  sc : Scope
  f : Addr
  cdv : Value
  A : Around
  outer : List Env
  L : Nat
  a : Addr
  go : Obj
  os : OsState
structure GB where
  s : Shared
  H : Hp
  F : Hp
  Own : Addr → Prop
  i : Nat
open Classical in
noncomputable def GB.B (g : GB) : Hp := fun b => if g.Own b then none else g.H b
def GB.E (g : GB) (p : GPr) (items : List D) (x : GX) : XK := fun cls dx H' => g.i = items.length ∧ items = [] ∧ ∃ e F', x = .err e ∧ IsExc p.K p.cm F' cls dx e ∧ FT p.cm F' H' ∧ Same g.F F' ∧ Keep g.B H' ∧ ∀ b o, F' b = some o → g.F b = some o ∨ g.B b = none
def GPr.env (p : GPr) : Env := envOfC p.qual p.sc p.L p.f p.cdv
abbrev GPr.T (p : GPr) (s : Shared) (H : Hp) (E : XK) : Tx :=
  { X := gcxOf p.P p.w p.K p.mg p.base p.N p.qual p.sc p.f p.cdv p.A p.outer s H E [(p.a, p.go)], cm := p.cm, W := fun cls d _ H => E cls d H, io := none }
abbrev Phi := Nat → (Addr → Prop) → Hp → Hp → Heap → Prop
structure GBase (p : GPr) (Φ : Phi) (g : GB) (s₀ : Shared) : Prop where
  heap : g.s.heap = cutH s₀.heap p.L
  size : g.s.heap.objs.size = p.L
  os : g.s.os = p.os
  phi : Φ g.i g.Own g.F g.H s₀.heap
  z : g.i = 0 → ∀ b, ¬ g.Own b
structure GLeft (p : GPr) (g : GB) (F H : Hp) (s : Shared) : Prop where
  os : s.os = p.os
  bare : AllBare s.gens
  hok : HOk p.P p.w H s.heap
  ft : FT p.cm F H
  ff : Same g.F F
  keep : Keep g.B H
  nw : ∀ b o, F b = some o → g.F b = some o ∨ g.B b = none
  un : Un (frs p.outer) [] g.H H g.s.heap s.heap
def OwnOk (g : GB) (Own : Addr → Prop) (F H : Hp) : Prop := ∀ b, Own b → F b = none ∧ (∃ ho, H b = some ho ∧ DL.ntb ho = true) ∧ g.B b = none
structure GPok (p : GPr) : Prop where
  S : GScope p.N p.ps p.sc
  nc : ∀ n, cellsFrom n p.sc.names [] = []
  fr : ∀ b ∈ frs p.outer, b < p.L
  bsz : p.base.objs.size ≤ p.L
  aL : p.L < p.a
  mod : Mod p.K p.mg p.base
  hd : p.A.handled = none
  frames : p.A.frames = some p.outer
  goc : ∀ v, p.go.data ≠ .cell v
  wc : p.cm.w = p.w
  inter : interactive p.env = false
structure GInv (p : GPr) (Φ : Phi) (items : List D) (x : GX) (s₀ : Shared) (g : GB) (σ : St) (Γ : List Sl) (F H : Hp) (s : Shared) : Prop where
  base : GBase p Φ g s₀
  inv : Inv (p.T g.s g.H (g.E p items x)).X [] σ H s
  sat : Sat p.K p.cm none g.B g.F F Γ σ H
section
variable {p : GPr} {Φ : Phi} {items : List D} {x : GX} {s₀ : Shared} {g : GB} {σ : St} {Γ : List Sl} {F H : Hp} {s : Shared}
theorem GInv.loc (I : GInv p Φ items x s₀ g σ Γ F H s) : ∃ on, s.heap.get? p.L = some on ∧ H p.L = none ∧ ∀ u, on.data ≠ .cell u := by
  have hL : (p.T g.s g.H (g.E p items x)).X.env.locals = p.L := I.base.size
  obtain ⟨m, ⟨o, es, ep, ho, hd, _⟩, _⟩ := I.inv.loc
  have fr := I.inv.free
  rw [hL] at ho fr
  exact ⟨o, ho, fr, fun u z => by rw [hd] at z; cases z⟩
theorem GInv.gen (I : GInv p Φ items x s₀ g σ Γ F H s) : s.heap.get? p.a = some p.go ∧ H p.a = none := by
  obtain ⟨h1, h2, _⟩ := I.inv.pin (p.a, p.go) (List.mem_append_left _ (List.mem_singleton.mpr rfl))
  exact ⟨h1, h2⟩
end
section
variable {p : GPr} {st : Stmt} {sts : List Stmt} {c : M Fl}
end
section
variable {p : GPr} {st : Stmt} {sts ss : List Stmt} {c : M Fl} {a b : MGn} {tb : M Bool} {e : Expr} {ce : M Rf} {pos yp : Pos}
end
end DL
namespace DL
open PySem L2 PyProof.Rows GenW
def GPr.at (p : GPr) (A : Around) : GPr := { p with A := A }
section
variable {P : Program} {w : World} {K : PySem.W.Frag} {mg : Str → Option Value} {base : Heap} {cm : CM}
end
end DL
namespace DL
open PySem L2 PyProof.Rows GenW
open Classical in
noncomputable def mnH (Own : Addr → Prop) (H : Hp) : Hp := fun b => if Own b then none else H b
theorem mnH_of {Own : Addr → Prop} {H : Hp} {b : Addr} {o : HO} (n : ¬ Own b) (e : H b = some o) : mnH Own H b = some o := by
  unfold mnH; rw [if_neg n]; exact e
structure GTurn (cm : CM) (Own : Addr → Prop) (F H : Hp) (Own1 : Addr → Prop) (F1 H1 : Hp) : Prop where
  ft : FT cm F1 H1
  ff : Same F F1
  keep : Keep (mnH Own H) H1
  nw : ∀ b o, F1 b = some o → F b = some o ∨ mnH Own H b = none
  own : ∀ b, Own1 b → F1 b = none ∧ (∃ ho, H1 b = some ho ∧ DL.ntb ho = true) ∧ mnH Own H b = none
abbrev Psi := Nat → (Addr → Prop) → L2.St → Hp → Hp → Prop
def Turns (cm : CM) (Ψ : Psi) : Prop := ∀ i Own σ F H Own1 F1 H1, Ψ i Own σ F H → FT cm F H → GTurn cm Own F H Own1 F1 H1 → Ψ i Own1 σ F1 H1
def PhiOf (T : Tx) (pins : List (Addr × Obj)) (Ψ : Psi) : Phi := fun i Own F H h => ∃ σ s, s.heap = h ∧ Inv T.X pins σ H s ∧ Ψ i Own σ F H ∧ FT T.cm F H
structure Cons (T : Tx) (pins : List (Addr × Obj)) (p : GPr) : Prop where
  pP : p.P = T.X.prog
  pw : p.w = T.X.w
  pK : p.K = T.X.K
  pb : p.base = T.X.base
  pcm : p.cm = T.cm
  po : p.outer = T.X.stack
  pos : p.os = T.X.s_0.os
  ok : GPok p
  lowP : ∀ q ∈ T.X.pn ++ pins, q.1 < p.L
  lowL : T.X.env.locals < p.L
  lowC : ∀ x c, T.X.env.cells.lookup x = some c → c < p.L
  lowS : T.X.s_0.heap.objs.size ≤ p.L
section
variable {T : Tx} {pins : List (Addr × Obj)} {p : GPr} {Ψ : Psi} {items : List D} {x : GX} {Nt i n : Nat} {Own : Addr → Prop} {F H : Hp} {on : Obj} {gs : GenState} {σ : L2.St} {s : Shared}
theorem _root_.L2.Inv.gens {X : Cx} {pins : List (Addr × Obj)} {σ : L2.St} {H : Hp} {s : Shared} (I : Inv X pins σ H s) {G : Array GenState} (h : AllBare G) : Inv X pins σ H { s with gens := G } :=
  I.call' (s' := { s with gens := G }) (ch := []) rfl Un.refl I.hok h fun b z => by cases z
theorem Cons.land (C : Cons T pins p) (tu : Turns T.cm Ψ) {g0 : GB} {s₀ s₁ : Shared} {F1 H1 : Hp} {Own1 : Addr → Prop} (gb : GBase p (PhiOf T pins Ψ) g0 s₀) (gl : GLeft p g0 F1 H1 s₁) (oo : OwnOk g0 Own1 F1 H1) :
    ∃ σ1, Inv T.X pins σ1 H1 s₁ ∧ Ψ g0.i Own1 σ1 F1 H1 ∧ FT T.cm F1 H1 := by
  obtain ⟨σ1, s2, e2, I2, ψ2, ft2⟩ := gb.phi
  have ft1 : FT T.cm F1 H1 := by rw [← C.pcm]; exact gl.ft
  refine ⟨σ1, ?_, tu _ _ _ _ _ _ _ _ ψ2 ft2 ⟨ft1, gl.ff, gl.keep, gl.nw, oo⟩, ft1⟩
  classical
  obtain ⟨ch, hch⟩ : ∃ ch : List Addr, ∀ b : Addr, b ∈ ch ↔ b < s2.heap.objs.size ∧ p.L ≤ b ∧ (g0.H b = none ∨ g0.Own b) :=
    ⟨(List.range s2.heap.objs.size).filter fun b => decide (p.L ≤ b ∧ (g0.H b = none ∨ g0.Own b)), fun b => by simp [List.mem_filter, List.mem_range]⟩
  have un := gl.un
  rw [gb.heap, ← e2] at un
  have low : ∀ b, b ∈ frs T.X.stack → b < p.L := fun b hb => C.ok.fr b (by rw [C.po]; exact hb)
  have lt : ∀ b o, s2.heap.get? b = some o → g0.H b = none → b ∉ ch → b < p.L := fun b o e n hc => by
    rcases Nat.lt_or_ge b p.L with h | h
    · exact h
    · exact absurd ((hch b).mpr ⟨Heap.lt_size e, h, .inl n⟩) hc
  have hH1 : HOk T.X.prog T.X.w H1 s₁.heap := by rw [← C.pP, ← C.pw]; exact gl.hok
  refine I2.call' (ch := ch) (gl.os.trans (C.pos.trans I2.os.symm)) ⟨fun b o e n nf hc => ?_, fun b o e n hf hc => ?_, fun b o e n hc => ?_, fun b o e hc => ?_, un.tups, un.frzs, un.tbls⟩ hH1 gl.bare fun b hb => ?_
  · exact un.keep b o (cutH_of (lt b o e n hc) e) n (by rw [C.po]; exact nf) (by simp)
  · exact un.slot b o (cutH_of (low b hf) e) n (by rw [C.po]; exact hf) (by simp)
  · exact un.free b o (cutH_of (lt b o e n hc) e) n (by simp)
  · rcases Nat.lt_or_ge b p.L with h | h
    · exact un.there b o (cutH_of h e) (by simp)
    · cases q : g0.H b with
      | none => exact absurd ((hch b).mpr ⟨Heap.lt_size e, h, .inl q⟩) hc
      | some ho =>
        have nO : ¬ g0.Own b := fun z => hc ((hch b).mpr ⟨Heap.lt_size e, h, .inr z⟩)
        have hk : H1 b ≠ none := by
          rcases gl.keep b ho (mnH_of nO q) with z | ⟨_, ps, z⟩ <;> rw [z] <;> exact fun z => nomatch z
        cases q2 : s₁.heap.get? b with
        | none => exact absurd (hH1.gone q2) hk
        | some o2 => exact ⟨o2, rfl⟩
  · obtain ⟨_, h2, _⟩ := (hch b).mp hb
    exact ⟨.inr (Nat.le_trans C.lowS h2), Nat.ne_of_gt (Nat.lt_of_lt_of_le C.lowL h2), fun y c e => Nat.ne_of_lt (Nat.lt_of_lt_of_le (C.lowC y c e) h2), fun q hq => Nat.ne_of_lt (Nat.lt_of_lt_of_le (C.lowP q hq) h2)⟩
end
end DL
namespace DL
open PySem L2 PyProof.Rows GenW
abbrev Tr := Nat → Option (List D × GX)
abbrev Stp := Nat → Bool
section
variable {K : PySem.W.Frag} {cm : CM} {io : Option Addr} {B F0 F F1 : Hp} {Γ : List Sl} {σ : L2.St} {H H1 : Hp} {Own Own1 : Addr → Prop}
end
theorem Room.in1 {k : Nat} {A : Around} (r : Room (k + 1) A) : Room k A.in1 :=
  ⟨r.hd, by have := r.dp; show A.depth + 3 * k + 5 < _; omega, by have := r.un; show A.units + 1 + 16 * k + 200 < _; omega⟩
section
variable {T : Tx} {k kG : Nat} {iter tg : Expr} {body : List Stmt} {ci : M Tr} {g : D → M Unit} {cb : M Fl} {pos : Pos} {S : Stp}
end
end DL
namespace DL
open PySem L2 PyProof.Rows GenW
section
variable {T : Tx} {k kG : Nat} {e : Expr} {ci : M Tr} {pos q : Pos} {S : Stp} {nm : Str}
theorem Sat.put {K : PySem.W.Frag} {cm : CM} {io : Option Addr} {B F0 F : Hp} {Γ : List Sl} {σ : L2.St} {H : Hp} (S : Sat K cm io B F0 F Γ σ H) {l : Addr} {xs ys : List V} (e : H l = some (.lst xs)) (nF : F l = none) (nB : B l = none)
    (ns : ∀ (j : Nat) (d : D), Γ[j]? = some (.own d) → σ[j]? ≠ some (some (.ref l))) : Sat K cm io B F0 F Γ σ (upd H l (.lst ys)) where
  fh := fun b o q => by rw [upd_ne (ne_of_none q nF)]; exact S.fh b o q
  bh := fun b o q => by
    have hb : b ≠ l := ne_of_none q nB
    rcases S.bh b o q with h | ⟨n, ps, h⟩
    · exact .inl (by rw [upd_ne hb]; exact h)
    · exact .inr ⟨n, ps, by rw [upd_ne hb]; exact h⟩
  tb := S.tb.step (.refl _) (fun b ps q => by
      rw [upd_ne (fun z => by rw [z, e] at q; cases q)]; exact q) (fun b ps q => upd_tbl rfl q) fun b o q => .inl q
  f0 := S.f0
  nw := S.nw
  len := S.len
  dt := S.dt
  ow := fun i d h => by
    obtain ⟨a, ho, h1, h2, h3, h4, h5⟩ := S.ow i d h
    have hb : a ≠ l := fun z => ns i d h (by rw [h1, z])
    exact ⟨a, ho, h1, h2, h3, by rw [upd_ne hb]; exact h4, h5⟩
  ap := S.ap
  ioA := S.ioA
end
end DL
namespace DL
open PySem L2 PyProof.Rows GenW
theorem _root_.L2.PK.weak {X : Cx} {e : List Keyword} {t t' : TA} (h : PK X e t) (w : ∀ σ H Q, t' σ H Q → t σ H Q) : PK X e t' := ⟨fun pos pins s σ H Q I q => h.run pos pins s σ H Q I (w σ H Q q)⟩
section
variable {T : Tx} {k kG : Nat} {x m : Str} {ps ks : List Str} {φ : Fg} {n : Nat} {dd : List D} {p pos apos kpos : Pos} {e o : Expr} {es : List Expr} {kws : List Keyword} {ce co : M Rf} {cs ck : M (List D)} {nm : Option Str}
end
end DL
namespace DL
open PySem L2 PyProof.Rows GenW
section
variable {P : Program} {w : World} {K : PySem.W.Frag} {mg : Str → Option Value} {base : Heap} {cm : CM}
end
section
variable {n : Nat} {Γ Γ1 Γ2 : List Sl} {a : M Fl} {b : MGn} {c : M Rf} {t : M Bool} {ds ys : List D} {d : D}
end
section
variable {K : PySem.W.Frag} {fd : FuncData} {ps ks : List Str}
end
end DL
namespace DL
open PySem L2 PyProof.Rows
section
variable {T : Tx} {k : Nat} {x : Str} {ps ks : List Str} {φ : Fn} {n : Nat} {dd : List D} {p pos : Pos} {e : Expr} {es : List Expr} {kws : List Keyword} {cs ck : M (List D)}
end
end DL
namespace DL
open PySem PySem.Spec L2 PyProof.Rows
section
variable {T : Tx} {B F0 F : Hp} {Γ : List Sl} {σ : L2.St} {H : Hp} {i : Nat}
end
section
variable {T : Tx} {tg iter kx vx : Expr} {ifs : List Expr} {scope : Scope} {pos py : Pos} {n : Nat} {gs : List D → M Unit} {ct : M Bool} {ck cv : M Rf}
end
end DL
namespace DL
open PySem PySem.Spec PyProof.Rows L2
end DL
namespace DL
open PySem PySem.Spec PyProof.Rows L2
end DL
namespace DL
open PySem L2 PyProof.Rows PySem.Spec
section
variable {T : Tx} {es : List Expr} {cs : M (List D)} {pos : Pos}
end
end DL
namespace DL
open PySem PySem.Spec PyProof.Rows L2
section
variable {M : Model} {A : Around} {E : Value → Shared → Prop} {s : Shared}
end
section
variable {prog : Program} {w : World} {A : Around} {E : Value → Shared → Prop} {s : Shared} {K : PySem.W.Frag} {C f x dx : Addr}
end
section
variable {T : Tx} {o e : Expr} {es : List Expr} {co ce : M Rf} {cs : M (List D)} {pos p : Pos} {f m x : Str} {k c : Nat} {φ : Fn}
end
end DL
namespace DL
open PySem PySem.Spec PyProof.Rows L2
section
variable {T : Tx} {e : Expr} {ca : M Rf} {pos p cp : Pos} {x : Str} {k : Nat} {ps : List Str} {φm : Fm}
end
end DL
namespace DL
open PySem PySem.Spec PyProof.Rows L2
theorem walk_DE {l : PySem.W.OpenLaw} {n k : Nat} {q : Program} {loose : List Str} {XP : (Str → Option Value) → Heap → Prop} {YP : World → Heap → Prop} {d : DefRec} {x : Str} {φ : Fn}
    (hn : l.most = some n) (hn2 : n ≤ sizeLine) (hdf : d.params.defaults = []) (hr : Room k callerA)
    (F : ∀ (w : World) (mg : Str → Option Value) (fa : Addr) (h : Heap), YP w h → h.Ns mainGlobals mg → mg d.name = some (.ref fa) →
      ∃ (K : PySem.W.Frag) (fd : FuncData) (cm : CM), K.In h ∧ TabTop K h cm.codes ∧ cm.tabs.map (·.1) = cm.codes.map (·.2) ∧ (∀ (s : Shared) (u : Value), BindsTo s fd ⟨[u], []⟩ [(x, u)]) ∧
        ∀ base : Heap, K.In base → base.Ns mainGlobals mg → (∀ p ∈ cm.codes, LamX.TabB base mg p.1 p.2) → FnG l.prog w K mg base k fa fd [x] (spD K cm 1 φ))
    (hφ : ∀ ns : List Int, ns.length ≤ n → φ [.lst (ns.map .int)] = some (.ok (.dat (.bl true)))) :
    PySem.W.WalkO q loose XP YP l.row.toRowW d [] (fun f vs => PySem.call f vs) := by
  refine Att.attach_call hn hdf fun w s₀ s₁ mg mb fa o pm cd doc a vs ns G Y ho hd hcd hmg hobj hints hlen hg => ?_
  obtain ⟨K, fd, cm, KX, hT, hcs, hb, hF⟩ := F w mg fa _ Y G.T.g hmg
  refine end_call KX G.T.g G.T.b G.T.builtins G.T.nolimit hg G.T.bmain hT hobj hints (Nat.le_trans hlen hn2) hr hF hb fun F H L => ?_
  refine ⟨F, [.lst (ns.map .int)], _, rfl, ⟨L.fh, L.tabs hcs⟩, .cons (.klst L.sq (ints_is ns)) .nil, hφ ns hlen, fun v F' H' _ i => ?_⟩
  exact IsT.bl (H := H') (.inl i)
end DL
namespace DL
open PySem L2 PyProof.Rows PySem.W
section
variable {X : Cx} {pins : List (Addr × Obj)} {σ : L2.St} {H : Hp} {s : Shared} {A : Around} {E : Value → Shared → Prop} {a : Addr} {y z : V} {u fu : Value} {o : Option V}
end
section
variable {T : Tx} {o e f : Expr} {co ce cf : M Rf} {apos cpos : Pos} {k : Nat}
end
section
variable {T : Tx} {o i : Expr} {co ci : M Rf} {pos : Pos} {k : Nat}
end
section
variable {prog : Program} {w : World}
end
section
open PySem.W
variable {prog : Program} {w : World} {A : Around} {s : Shared}
end
end DL
namespace DL
open PySem L2 PyProof.Rows
section
variable {P : Program} {w : World} {K : PySem.W.Frag} {mg : Str → Option Value} {base : Heap}
end
section
variable {P : Program} {w : World} {K : PySem.W.Frag} {mg : Str → Option Value} {base : Heap} {cm : CM}
theorem ResX.after {F H F1 H1 : Hp} {Q : VK} {E : XK} {r : Ans} (st : Step cm F H F1 H1) (nf : ∀ b, H1 b = none → H b = none) (h : ResX K cm F H Q E r) : ResX K cm F1 H1 Q E r := by
  cases r with
  | error e => exact fun F' H' cls dx s ie => h F' H' cls dx (st.trans s) ie
  | ok r =>
    cases r with
    | dat d => exact fun v F' H' s i => h v F' H' (st.trans s) i
    | own d => exact fun a ho F' H' s n nf' e o => h a ho F' H' (st.trans s) (nf a n) nf' e o
    | slot k => exact h
theorem StepM.after {a : Addr} {F H F1 H1 F2 H2 : Hp} (st : Step cm F H F1 H1) (ha : H a ≠ none) (s : StepM cm a F1 H1 F2 H2) : StepM cm a F H F2 H2 where
  hh := fun b o hb e => by
    rcases st.hh b o e with h | ⟨n, ps, h⟩
    · exact s.hh b o hb h
    · rcases s.hh b _ hb h with h' | ⟨_, ps', h'⟩
      · exact .inr ⟨n, ps, h'⟩
      · exact .inr ⟨n, ps', h'⟩
  ff := st.ff.trans s.ff
  fh := s.fh
  nw := fun p o e => by
    rcases s.nw p o e with h | h
    · exact st.nw p o h
    · refine .inr ?_
      cases q : H p with
      | none => rfl
      | some o' =>
        rcases st.hh p o' q with z | ⟨_, ps, z⟩ <;> rw [h] at z <;> cases z
  tb := fun h => s.tb (st.tb h)
theorem ResM.after {a : Addr} {F H F1 H1 : Hp} {Q : VK} {E : XK} {d1 : D} {r : Ans} (st : Step cm F H F1 H1) (ha : H a ≠ none) (nf : ∀ b, H1 b = none → H b = none) (h : ResM K cm a F H Q E d1 r) : ResM K cm a F1 H1 Q E d1 r := by
  cases r with
  | error e => exact fun ho1 F' H' cls dx s q1 q2 ie => h ho1 F' H' cls dx (.after st ha s) q1 q2 ie
  | ok r =>
    cases r with
    | dat d => exact fun v ho1 F' H' s q1 q2 i => h v ho1 F' H' (.after st ha s) q1 q2 i
    | own d => exact fun b ho ho1 F' H' s q1 q2 n nf' e o => h b ho ho1 F' H' (.after st ha s) q1 q2 (nf b n) nf' e o
    | slot k => exact h
end
section
variable {X : Cx} {k : Nat} {f : Addr} {sp : Sp}
end
section
variable {T : Tx} {o e : Expr} {es : List Expr} {co ce : M Rf} {cs : M (List D)} {pos p apos : Pos} {m : Str} {k n : Nat} {φ : Fn} {φm : Fm}
end
end DL
namespace DL
open PySem L2 PyProof.Rows
section
variable {T : Tx} {B F0 F : Hp} {Γ : List Sl} {σ : L2.St} {H : Hp} {α : Type}
theorem Run.side {c : M α} {P : α → Hp → List Sl → Hp → Prop} {q : Addr} {o : HO} (hq : H q = none) (nt : ntb o = true) (r : Run T B F0 c F Γ σ H P) :
    Run T (upd B q o) F0 c F Γ σ (upd H q o) fun a F' Γ' H' => H' q = some o ∧ T.Sat B F0 F' Γ' σ H' ∧ P a F' Γ' H' := by
  obtain ⟨S, r⟩ := r
  have hB : B q = none := S.bh.free hq
  have hF : F q = none := S.fh.free hq
  refine ⟨Sat.side S hF (.inl hq) nt, ?_⟩
  rcases e : c Γ with _ | ⟨x | a, Γ'⟩
  · rw [e] at r; exact r
  · rw [e] at r
    exact fun F' H' cls dx s S' ie => r F' H' cls dx s (Sat.weakB S' (.up hB)) ie
  · rw [e] at r
    exact fun F' H' s S' => ⟨S'.bh.at upd_same nt, Sat.weakB S' (.up hB), r F' H' s (Sat.weakB S' (.up hB))⟩
end
section
variable {T : Tx} {o e : Expr} {es : List Expr} {co ce : M Rf} {cs : M (List D)} {pos p apos : Pos} {m : Str} {k n : Nat} {φ : Fn}
end
end DL
namespace DL
open PySem L2 PyProof.Rows PySem.W
section
variable {prog : Program} {w : World} {A : Around} {E : Value → Shared → Prop} {s : Shared} {z TI TO T i1 i2 : Addr} {f : Bool} {oT : Obj} {fp1 fp2 : List Addr} {n1 n2 i : Nat} {P1 P2 : Nat → Value → Prop} {St1 St2 : Nat → Heap → Prop}
end
def ZipAt (H : Hp) (h : Heap) (z TI TO : Addr) : Prop := (IsZip h z TI TO .none ∧ ∃ a1 a2, IsTupOf2 h TO a1 a2) ∨ ∃ T f xs, IsZipHeld h z TI TO T f ∧ H T = some (.tup xs)
section
variable {T : Tx} {pins : List (Addr × Obj)} {B F0 F1 : Hp} {Γ : List Sl} {σ : L2.St} {ds es : List D} {ws ws2 : List V} {l z TI TO i1 i2 : Addr} {fp1 fp2 : List Addr} {St1 St2 : Nat → Heap → Prop} {A1 : Around} {R : Result → Shared → Prop}
theorem ZipAt.over {H H' : Hp} {h h' : Heap} (hz : ZipAt H h z TI TO) (e1 : h'.get? z = h.get? z) (e2 : h'.get? TO = h.get? TO) (eH : ∀ T xs, H T = some (.tup xs) → H' T = some (.tup xs)) : ZipAt H' h' z TI TO := by
  rcases hz with ⟨hz0, a1, a2, hTO⟩ | ⟨Tt, f, xs, hzh, hHT⟩
  · exact .inl ⟨e1.trans hz0, a1, a2, e2.trans hTO⟩
  · exact .inr ⟨Tt, f, xs, e1.trans hzh, eH _ _ hHT⟩
end
section
variable {T : Tx} {k : Nat} {e e2 : Expr} {cs : M (List D)} {pos pos2 q p : Pos}
end
end DL
namespace DL
open PySem PySem.Spec PyProof.Rows L2
section
variable {K : PySem.W.Frag} {cm : CM} {F H : Hp}
end
section
variable {X : Cx} {pins : List (Addr × Obj)} {σ : L2.St} {H F : Hp} {s : Shared}
end
end DL
namespace DL
open PySem L2 PyProof.Rows
section
variable {T : Tx} {k : Nat} {e : Expr} {co : M Rf} {φm : Fm} {p pos : Pos}
end
end DL
namespace DL
open PySem PySem.Spec PyProof.Rows L2
section
variable {K : PySem.W.Frag} {cm : CM} {F : Hp}
end
section
variable {T : Tx} {k : Nat}
end
section
variable {T : Tx} {a b : Expr} {ca cb : M Rf} {pos : Pos} {c k : Nat} {φ : Fm}
end
end DL
namespace DL
open PySem PySem.Spec PyProof.Rows L2
section
open PySem.W PySem.Builtin PySem.Builtin.Str PySem.Builtin.Int PySem.Builtin.Float
variable {prog : Program} {w : World} {A : Around} {E : Value → Shared → Prop} {s : Shared} {t : Tok}
end
def fmtA : Rf → M Rf
  | .dat (.str x) => if x.length ≤ big then ret (.dat (.str x)) else fail
  | .dat (.int i) => if i.natAbs.log2 < 1920 then ret (.dat (.str (toString i))) else fail
  | _ => fail
def sFmt (c : M Rf) : M Rf := bnd c fmtA
def fsJ : Str → List (M Rf) → M Rf
  | acc, [] => ret (.dat (.str acc))
  | acc, c :: cs => bnd c fun x => match x with
    | .dat (.str y) => if (acc ++ y).length ≤ big then fsJ (acc ++ y) cs else fail
    | _ => fail
def sFs (cs : List (M Rf)) : M Rf := fsJ Str.empty cs
inductive RJ (T : Tx) : List Expr → List (M Rf) → Prop
  | nil : RJ T [] []
  | cons {e : Expr} {c : M Rf} {es : List Expr} {cs : List (M Rf)} (h : RE T e c) (r : RJ T es cs) : RJ T (e :: es) (c :: cs)
section
variable {T : Tx} {e : Expr} {c : M Rf} {pos p1 p2 : Pos} {B F0 F : Hp} {Γ : List Sl} {σ : L2.St} {H : Hp} {Q : VK}
theorem rf_str {F1 : Hp} {Γ1 : List Sl} {H1 : Hp} {v : V} {x : Str} (h : IsRf T.X.K T.cm B F1 Γ1 σ H1 v (.dat (.str x))) : v = .str x := IsT.str (H := H1) (.inl h)
theorem rf_int {F1 : Hp} {Γ1 : List Sl} {H1 : Hp} {v : V} {i : Int} (h : IsRf T.X.K T.cm B F1 Γ1 σ H1 v (.dat (.int i))) : v = .int i := IsT.int (H := H1) (.inl h)
theorem re_fmt (h : RE T e c) : RE T (.FormattedValue e (-1) none pos) (sFmt c) := fun B F0 => (pe_fmt (h B F0)).weak fun σ H Q ⟨F, Γ, r⟩ => ⟨F, Γ, r.bnd.mono fun x F1 Γ1 H1 q1 S1 r1 v hv => by
  unfold fmtA at r1
  split at r1
  · rename_i y
    split at r1
    · rename_i hl
      exact .inl ⟨y, rf_str hv, le_big hl, r1.ret.2 _ (.str _)⟩
    · exact r1.2.elim
  · rename_i i
    split at r1
    · rename_i hl
      exact .inr ⟨i, rf_int hv, hl, r1.ret.2 _ (.str _)⟩
    · exact r1.2.elim
  · exact r1.2.elim⟩
theorem rj_pj {es : List Expr} {cs : List (M Rf)} (h : RJ T es cs) : PJ T.X es (cs.map fun c => tS T B F0 c) := by
  induction h with
  | nil => exact .nil
  | cons h r ih => exact .cons (h B F0) ih
theorem fs_weak : ∀ {cs : List (M Rf)} {acc : Str} {F : Hp} {Γ : List Sl} {H : Hp}, Run T B F0 (fsJ acc cs) F Γ σ H (fun r F' Γ' H' => ∀ v, IsRf T.X.K T.cm B F' Γ' σ H' v r → Q v H') → tJs (cs.map fun c => tS T B F0 c) acc σ H fun out H1 => Q (.str out) H1
  | [], acc, F, Γ, H, r => r.ret.2 _ (.str _)
  | c :: cs, acc, F, Γ, H, r => by
    have r0 : Run T B F0 (bnd c fun x => match x with
      | .dat (.str y) => if (acc ++ y).length ≤ big then fsJ (acc ++ y) cs else fail
      | _ => fail) F Γ σ H (fun r F' Γ' H' => ∀ v, IsRf T.X.K T.cm B F' Γ' σ H' v r → Q v H') := r
    refine ⟨F, Γ, r0.bnd.mono fun x F1 Γ1 H1 q1 S1 r1 v hv => ?_⟩
    split at r1
    · rename_i y
      split at r1
      · rename_i hl
        exact ⟨y, rf_str hv, le_big hl, fs_weak r1⟩
      · exact r1.2.elim
    · exact r1.2.elim
theorem re_joined {v1 v2 : Expr} {rest : List Expr} {cs : List (M Rf)} (h : RJ T (v1 :: v2 :: rest) cs) : RE T (.JoinedStr (v1 :: v2 :: rest) pos) (sFs cs) := fun B F0 => (pe_joined (rj_pj h)).weak fun σ H Q ⟨F, Γ, r⟩ => fs_weak r
end
end DL
namespace DL
open PySem PySem.Spec PyProof.Rows L2
def splitF : D → D → Option Rf
  | .str a, .str b => if b.length = 1 ∧ a.length ≤ 16000000 then some (.own (.lst ((Txt.split a b).map .str))) else none
  | _, _ => none
def intSF : List D → Option Rf
  | [.str a] => match PySem.intText? a with
    | some n => if a.length ≤ 640 then some (.dat (.int n)) else none
    | none => none
  | _ => none
section
variable {T : Tx} {o e : Expr} {co cb : M Rf} {pos apos : Pos}
theorem strs_all {K : PySem.W.Frag} {cm : CM} {F : Hp} : ∀ ys : List Str, IsAll K cm F (ys.map V.str) (ys.map D.str)
  | [] => .nil
  | y :: ys => .cons (.str y) (strs_all ys)
theorem re_split (ha : RE T o co) (hb : RE T e cb) (hs : starEach [e] T.X.env = [(false, eval e T.X.env)] := by rfl) (hbase : attributeBase o "split" T.X.env (eval o T.X.env) = eval o T.X.env := by rfl) (hline : (apos.endLine == pos.line) = true := by rfl) :
    RE T (.Call (.Attribute o "split" apos) [e] [] pos) (sStr1 splitF co cb) := fun B F0 =>
  (pe_split (ha B F0) (re_opnd hb B F0) hs hbase hline).weak fun σ H Q h => str1_weak (fun x y H Q ⟨F, d1, d2, fh, i1, i2, h⟩ => by
    match d1, d2, i1, i2, h with
    | .str a, .str b, i1, i2, h =>
      simp only [splitF] at h
      split at h
      · rename_i hl
        refine ⟨a, b, i1.str, by rw [i2.str], by rw [hl.1]; rfl, ?_, fun p n => h.newLst fh (strs_all _) p n⟩
        have : 16000002 ≤ sizeLine := by decide
        omega
      · exact h.elim) h
theorem call_intSF : CallD T (.type "int") intSF := by
  intro pins s σ H vs us Q I r ⟨F, ds, fh, at_, h⟩
  match ds, at_, h with
  | [.str a], at_, h =>
    obtain ⟨v, rfl, iv⟩ := at_.one
    simp only [intSF] at h
    split at h
    · rename_i n hn
      split at h
      · rename_i hl
        have hx := iv.str
        subst hx
        exact call_int_str pins s σ H [.str a] us Q I r ⟨a, n, rfl, hn, hl, h.val fh (.int _)⟩
      · exact h.elim
    · exact h.elim
end
end DL
namespace DL
open PySem L2 PyProof.Rows PySem.W
section
variable {T : Tx}
end
end DL
namespace DL
open PySem L2
section
variable {α β : Type} {Γ : List Sl}
@[simp] theorem ret_ap (a : α) : ret a Γ = some (.ok a, Γ) := rfl
theorem bnd_ap (m : M α) (k : α → M β) : bnd m k Γ = match m Γ with
  | none => none
  | some (.error e, Γ') => some (.error e, Γ')
  | some (.ok a, Γ') => k a Γ' := rfl
@[simp] theorem fail_ap : (fail : M α) Γ = none := rfl
@[simp] theorem throw_ap (e : D) : (throw' e : M α) Γ = some (.error e, Γ) := rfl
@[simp] theorem sVar_ap (i : Nat) : sVar i Γ = match Γ[i]? with
  | some (.dat d) => some (.ok (.dat d), Γ)
  | some (.own _) => some (.ok (.slot i), Γ)
  | _ => none := rfl
@[simp] theorem sK_ap (d : D) : sK d Γ = some (.ok (.dat d), Γ) := rfl
@[simp] theorem opnd_ap (c : M Rf) : opnd c Γ = bnd c (fun r => ret (opR r)) Γ := rfl
@[simp] theorem cap_ap (c : M Rf) : cap c Γ = bnd c capR Γ := rfl
@[simp] theorem capR_dat (d : D) : capR (.dat d) Γ = some (.ok d, Γ) := rfl
@[simp] theorem capR_own (d : D) : capR (.own d) Γ = some (.ok d, Γ) := rfl
@[simp] theorem capR_slot (i : Nat) : capR (.slot i) Γ = match Γ[i]? with
    | some (.own d) => some (.ok d, Γ.set i (.dat d))
    | _ => none := rfl
@[simp] theorem opR_dat (d : D) : opR (.dat d) = .dat d := rfl
@[simp] theorem opR_own (d : D) : opR (.own d) = .dat d := rfl
@[simp] theorem opR_slot (i : Nat) : opR (.slot i) = .slot i := rfl
@[simp] theorem rsv_dat (d : D) : rsv Γ (.dat d) = some d := rfl
@[simp] theorem rsv_own (d : D) : rsv Γ (.own d) = none := rfl
@[simp] theorem rsv_slot (i : Nat) : rsv Γ (.slot i) = match Γ[i]? with
    | some (.own d) => some d
    | some (.dat d) => some d
    | _ => none := rfl
@[simp] theorem lift_dat (d : D) : lift (some (.dat d)) Γ = some (.ok (.dat d), Γ) := rfl
@[simp] theorem lift_own (d : D) : lift (some (.own d)) Γ = some (.ok (.own d), Γ) := rfl
@[simp] theorem lift_none : lift none Γ = none := rfl
@[simp] theorem sBin_ap (f : D → D → Option Rf) (a b : M Rf) : sBin f a b Γ = bnd (opnd a) (fun x => bnd (opnd b) fun y => app2 f x y) Γ := rfl
@[simp] theorem app2_ap (f : D → D → Option Rf) (x y : Rf) : app2 f x y Γ = match rsv Γ x, rsv Γ y with
  | some d, some e => lift (f d e) Γ
  | _, _ => none := rfl
@[simp] theorem asB_bl (b : Bool) : asB (.dat (.bl b)) = ret b := rfl
@[simp] theorem sB_ap (c : M Rf) : sB c Γ = bnd c asB Γ := rfl
@[simp] theorem sChain_ap (f g : D → D → Option Rf) (a b c : M Rf) : sChain f g a b c Γ = bnd (opnd a) (fun x => bnd (opnd b) fun y => bnd (app2 f x y) fun r => bnd (asB r) fun k =>
  if k then bnd (opnd c) fun z => app2 g y z else ret (.dat (.bl false))) Γ := rfl
@[simp] theorem sAndT_ap (a b : M Bool) : sAndT a b Γ = bnd a (fun k => if k then b else ret false) Γ := rfl
@[simp] theorem sOrT_ap (a b : M Bool) : sOrT a b Γ = bnd a (fun k => if k then ret true else b) Γ := rfl
@[simp] theorem sNotT_ap (a : M Bool) : sNotT a Γ = bnd a (fun k => ret !k) Γ := rfl
@[simp] theorem sAndV_ap (a b : M Rf) : sAndV a b Γ = bnd (sB a) (fun k => if k then b else ret (.dat (.bl false))) Γ := rfl
@[simp] theorem sOrV_ap (a b : M Rf) : sOrV a b Γ = bnd (sB a) (fun k => if k then ret (.dat (.bl true)) else b) Γ := rfl
@[simp] theorem sIfE_ap (t : M Bool) (a b : M Rf) : sIfE t a b Γ = bnd t (fun k => if k then a else b) Γ := rfl
@[simp] theorem sIsN_ap (c : M Rf) : sIsN c Γ = bnd c (fun r => ret (.dat (.bl (isN r)))) Γ := rfl
@[simp] theorem sIsT_ap (c : M Rf) : sIsT c Γ = bnd c (fun r => ret (isN r)) Γ := rfl
@[simp] theorem sNil_ap : sNil Γ = some (.ok [], Γ) := rfl
@[simp] theorem sCons_ap (a : M D) (r : M (List D)) : sCons a r Γ = bnd a (fun d => bnd r fun ds => ret (d :: ds)) Γ := rfl
@[simp] theorem sTup_ap (c : M (List D)) : sTup c Γ = bnd c (fun ds => lift (mkTup ds)) Γ := rfl
@[simp] theorem sLst_ap (c : M (List D)) : sLst c Γ = bnd c (fun ds => lift (mkLst ds)) Γ := rfl
@[simp] theorem oNil_ap : oNil Γ = some (.ok [], Γ) := rfl
@[simp] theorem oCons_ap (a : M Rf) (r : M (List Rf)) : oCons a r Γ = bnd (opnd a) (fun d => bnd r fun ds => ret (d :: ds)) Γ := rfl
@[simp] theorem rsvs_nil : rsvs Γ [] = some [] := rfl
@[simp] theorem rsvs_cons (r : Rf) (rs : List Rf) : rsvs Γ (r :: rs) = match rsv Γ r, rsvs Γ rs with
    | some d, some ds => some (d :: ds)
    | _, _ => none := rfl
@[simp] theorem appN_ap (f : List D → Option Rf) (rs : List Rf) : appN f rs Γ = match rsvs Γ rs with
  | some ds => lift (f ds) Γ
  | none => none := rfl
@[simp] theorem sCB_ap (f : List D → Option Rf) (c : M (List Rf)) : sCB f c Γ = bnd c (appN f) Γ := rfl
@[simp] theorem sSkip_ap : sSkip Γ = some (.ok .nx, Γ) := rfl
@[simp] theorem sSeq_ap (a b : M Fl) : sSeq a b Γ = bnd a (fun f => match f with
  | .nx => b
  | f => ret f) Γ := rfl
@[simp] theorem sIf_ap (t : M Bool) (a b : M Fl) : sIf t a b Γ = bnd t (fun k => if k then a else b) Γ := rfl
@[simp] theorem sDrop_ap (c : M Rf) : sDrop c Γ = bnd c (fun _ => ret .nx) Γ := rfl
@[simp] theorem sRet_ap (c : M Rf) : sRet c Γ = bnd c (fun r => ret (.rt r)) Γ := rfl
@[simp] theorem gSet_ap (i : Nat) (d : D) : gSet i d Γ = if i < Γ.length then some (.ok (), Γ.set i (.dat d)) else none := rfl
@[simp] theorem gOwn_ap (i : Nat) (d : D) : gOwn i d Γ = if i < Γ.length then some (.ok (), Γ.set i (.own d)) else none := rfl
@[simp] theorem stR_dat (i : Nat) (d : D) : stR i (.dat d) = gSet i d := rfl
@[simp] theorem stR_own (i : Nat) (d : D) : stR i (.own d) = gOwn i d := rfl
@[simp] theorem stR_slot (i j : Nat) : stR i (.slot j) = bnd (capR (.slot j)) (gSet i) := rfl
@[simp] theorem sSet_ap (i : Nat) (c : M Rf) : sSet i c Γ = bnd c (fun r => bnd (stR i r) fun _ => ret .nx) Γ := rfl
@[simp] theorem gNone_nil : gNone [] = ret () := rfl
@[simp] theorem gMore_cons (g : D → M Unit) (gs : List D → M Unit) (d : D) (ds : List D) : gMore g gs (d :: ds) = bnd (g d) fun _ => gs ds := rfl
@[simp] theorem gTupD_tup (n : Nat) (gs : List D → M Unit) (ds : List D) : gTupD n gs (.tup ds) = if ds.length = n then gs ds else fail := rfl
@[simp] theorem sAsg_ap (g : D → M Unit) (c : M Rf) : sAsg g c Γ = bnd (cap c) (fun d => bnd (g d) fun _ => ret .nx) Γ := rfl
@[simp] theorem gIx_ap (a b : M Rf) (d : D) : gIx a b d Γ = bnd a (fun r => bnd (cap b) fun k => bnd (lendA setM r [k, d]) fun _ => ret ()) Γ := rfl
@[simp] theorem lendA_slot (φ : Fm) (i : Nat) (ds : List D) : lendA φ (.slot i) ds Γ = lendX φ i ds Γ := rfl
@[simp] theorem lendX_ap (φ : Fm) (i : Nat) (ds : List D) : lendX φ i ds Γ = match Γ[i]? with
  | some (.own d0) => match φ d0 ds with
    | some (.ok (.dat d), d1) => some (.ok (.dat d), Γ.set i (.own d1))
    | some (.ok (.own d), d1) => some (.ok (.own d), Γ.set i (.own d1))
    | some (.error e, d1) => some (.error e, Γ.set i (.own d1))
    | _ => none
  | _ => none := rfl
@[simp] theorem rNil_ap : rNil Γ = some (.ok [], Γ) := rfl
@[simp] theorem rCons_ap (a : M Rf) (r : M (List Rf)) : rCons a r Γ = bnd a (fun x => bnd r fun xs => ret (x :: xs)) Γ := rfl
@[simp] theorem stAll_nil : stAll [] [] Γ = some (.ok (), Γ) := rfl
@[simp] theorem stAll_cons (i : Nat) (is : List Nat) (r : Rf) (rs : List Rf) : stAll (i :: is) (r :: rs) Γ = bnd (stR i r) (fun _ => stAll is rs) Γ := rfl
@[simp] theorem sPar_ap (is : List Nat) (c : M (List Rf)) : sPar is c Γ = bnd c (fun rs => if noSlot is rs then bnd (stAll is rs) fun _ => ret .nx else fail) Γ := rfl
@[simp] theorem noSlot_nil (is : List Nat) : noSlot is [] = true := rfl
@[simp] theorem noSlot_dat (is : List Nat) (d : D) (rs : List Rf) : noSlot is (.dat d :: rs) = noSlot is rs := rfl
@[simp] theorem noSlot_own (is : List Nat) (d : D) (rs : List Rf) : noSlot is (.own d :: rs) = noSlot is rs := rfl
@[simp] theorem noSlot_slot (is : List Nat) (j : Nat) (rs : List Rf) : noSlot is (.slot j :: rs) = (!is.contains j && noSlot is rs) := rfl
@[simp] theorem sFor_ap (c : M (List D)) (g : D → M Unit) (b : M Fl) : sFor c g b Γ = bnd c (loopF g b) Γ := rfl
@[simp] theorem loopF_nil (g : D → M Unit) (b : M Fl) : loopF g b [] Γ = some (.ok .nx, Γ) := rfl
theorem loopF_cons (g : D → M Unit) (b : M Fl) (d : D) (ds : List D) : loopF g b (d :: ds) Γ = bnd (g d) (fun _ => bnd b fun f => match f with
    | .nx => loopF g b ds
    | .ct => loopF g b ds
    | .bk => ret .nx
    | .rt r => ret (.rt r)) Γ := rfl
@[simp] theorem ofO_some (a : α) : ofO (some a) Γ = some (.ok a, Γ) := rfl
@[simp] theorem ofO_none : ofO (none : Option α) Γ = none := rfl
@[simp] theorem sIter_ap (c : M Rf) : sIter c Γ = bnd (cap c) (fun d => ofO (seqI d)) Γ := rfl
@[simp] theorem sRng_ap (f : List D → Option (List D)) (c : M (List D)) : sRng f c Γ = bnd c (fun ds => ofO (f ds)) Γ := rfl
@[simp] theorem liftX_dat (d : D) : liftX (some (.ok (.dat d))) Γ = some (.ok (.dat d), Γ) := rfl
@[simp] theorem liftX_own (d : D) : liftX (some (.ok (.own d))) Γ = some (.ok (.own d), Γ) := rfl
@[simp] theorem liftX_err (e : D) : liftX (some (.error e)) Γ = some (.error e, Γ) := rfl
@[simp] theorem sCallF_ap (φ : Fn) (c : M (List D)) : sCallF φ c Γ = bnd c (fun ds => liftX (φ ds)) Γ := rfl
@[simp] theorem argN_ap (n : Nat) (φ : Fn) (ds : List D) : argN n φ ds = if ds.length = n then φ ds else none := rfl
@[simp] theorem mCons_ap (a : M Rf) (cs : M (List D)) : mCons a cs Γ = bnd a (fun r => bnd cs fun ds => ret (r, ds)) Γ := rfl
@[simp] theorem sCallM_ap (φ : Fm) (a : M Rf) (cs : M (List D)) : sCallM φ a cs Γ = bnd (mCons a cs) (fun p => lendA φ p.1 p.2) Γ := rfl
@[simp] theorem argM_ap (n : Nat) (φ : Fm) (d : D) (ds : List D) : argM n φ d ds = if ds.length + 1 = n then φ d ds else none := rfl
@[simp] theorem sOne_ap (f : D → Option Rf) (a : M Rf) : sOne f a Γ = bnd (opnd a) (app1 f) Γ := rfl
@[simp] theorem app1_ap (f : D → Option Rf) (x : Rf) : app1 f x Γ = match rsv Γ x with
  | some d => lift (f d) Γ
  | none => none := rfl
@[simp] theorem sPutF_ap (c : Nat) (f : Str) (a b : M Rf) : sPutF c f a b Γ = bnd (cap b) (fun d => bnd a fun r => bnd (lendA (putM c f) r [d]) fun _ => ret .nx) Γ := rfl
@[simp] theorem sMut_ap (p : D → Bool) (φ : Fm) (a : M Rf) (cs : M (List D)) : sMut p φ a cs Γ = bnd a (fun r => bnd (ownB p r) fun _ => bnd cs fun ds => lendA φ r ds) Γ := rfl
@[simp] theorem ownB_slot (p : D → Bool) (i : Nat) : ownB p (.slot i) Γ = match Γ[i]? with
    | some (.own d) => if p d then some (.ok (), Γ) else none
    | _ => none := rfl
@[simp] theorem sPart_ap (c : M Rf) : sPart c Γ = bnd (opnd c) (fun r => match r with
  | .dat (.int i) => ret (some i)
  | _ => fail) Γ := rfl
def sliA (x : Rf) (l u : Option Int) : M Rf := fun Γ => match rsv Γ x with
  | some d => lift (sliF d l u) Γ
  | none => none
@[simp] theorem sliA_ap (x : Rf) (l u : Option Int) : sliA x l u Γ = match rsv Γ x with
  | some d => lift (sliF d l u) Γ
  | none => none := rfl
@[simp] theorem sSli_ap (a : M Rf) (lo hi : M (Option Int)) : sSli a lo hi Γ = bnd (opnd a) (fun x => bnd lo fun l => bnd hi fun u => sliA x l u) Γ := rfl
@[simp] theorem lcM_ap (g : D → M Unit) (ct : M Bool) (ce : M D) (vs : List Nat) (ds : List D) : lcM g ct ce vs ds Γ = match loopL g ct ce vs ds [] (wipeG Γ vs) with
  | some (.ok acc, Γ2) => some (.ok (.own (.lst acc)), unwipe Γ Γ2 vs)
  | _ => none := rfl
@[simp] theorem unwipe_nil (Γ2 : List Sl) : unwipe Γ Γ2 [] = Γ2 := rfl
@[simp] theorem unwipe_cons (Γ2 : List Sl) (v : Nat) (vs : List Nat) : unwipe Γ Γ2 (v :: vs) = (unwipe Γ Γ2 vs).set v (keepD Γ[v]?) := rfl
@[simp] theorem keepD_dat (d : D) : keepD (some (.dat d)) = .dat d := rfl
@[simp] theorem keepD_un : keepD (some .un) = .un := rfl
@[simp] theorem wipeG_nil : wipeG Γ [] = Γ := rfl
@[simp] theorem wipeG_cons (v : Nat) (vs : List Nat) : wipeG Γ (v :: vs) = (wipeG Γ vs).set v .un := rfl
@[simp] theorem isStr_str (x : Str) : isStr (.dat (.str x)) = true := rfl
@[simp] theorem sStr1_ap (f : D → D → Option Rf) (a b : M Rf) : sStr1 f a b Γ = bnd a (fun x => if isStr x then bnd (opnd b) fun y => app2 f x y else fail) Γ := rfl
@[simp] theorem sLc_ap (vs : List Nat) (ci : M (List D)) (g : D → M Unit) (ct : M Bool) (ce : M Rf) : sLc vs ci g ct ce Γ = bnd ci (lcM g ct (cap ce) vs) Γ := rfl
@[simp] theorem sRaise_ap (c : Nat) (fs : List Str) (cs : M (List D)) : sRaise c fs cs Γ = bnd cs (fun ds => match excF c fs ds with
  | some e => throw' e
  | none => fail) Γ := rfl
@[simp] theorem sMeth_ap (c : Nat) (m : Str) (φ : Fn) (a : M Rf) (cs : M (List D)) : sMeth c m φ a cs Γ = bnd (cap a) (fun d => bnd (insA c m d) fun _ => bnd cs fun ds => liftX (φ (d :: ds))) Γ := rfl
@[simp] theorem insA_ap (c : Nat) (m : Str) (d : D) : insA c m d Γ = if isInsB c m d then some (.ok (), Γ) else none := by unfold insA; split <;> rfl
@[simp] theorem sProp_ap (c : Nat) (φ : Fn) (a : M Rf) : sProp c φ a Γ = bnd (cap a) (fun d => bnd (insA c "" d) fun _ => okX (φ [d])) Γ := rfl
@[simp] theorem okX_dat (d : D) : okX (some (.ok (.dat d))) Γ = some (.ok (.dat d), Γ) := rfl
@[simp] theorem okX_own (d : D) : okX (some (.ok (.own d))) Γ = some (.ok (.own d), Γ) := rfl
@[simp] theorem sTryK_ap (M0 : Mt) (i j : Nat) (b : M Fl) : sTryK M0 i j b Γ = match b Γ with
  | some (.error (.exc c fs vs), Γ') => match M0 c with
    | some true => if i < Γ'.length then some (.ok .nx, (Γ'.set j (.dat (.exc c fs vs))).set i .un) else none
    | some false => some (.error (.exc c fs vs), Γ')
    | none => none
  | r => r := rfl
theorem bnd_to {m : M α} {k : α → M β} {Γ' : List Sl} {a : α} (h : m Γ = some (.ok a, Γ')) : bnd m k Γ = k a Γ' := bnd_ok h
end
@[simp] theorem kitB_NoneType_int : L2.kitB "NoneType" "int" = some false := by decide +kernel
@[simp] theorem kitB_NoneType_str : L2.kitB "NoneType" "str" = some false := by decide +kernel
@[simp] theorem kitB_NoneType_bool : L2.kitB "NoneType" "bool" = some false := by decide +kernel
@[simp] theorem kitB_NoneType_tuple : L2.kitB "NoneType" "tuple" = some false := by decide +kernel
@[simp] theorem kitB_NoneType_list : L2.kitB "NoneType" "list" = some false := by decide +kernel
@[simp] theorem kitB_NoneType_dict : L2.kitB "NoneType" "dict" = some false := by decide +kernel
@[simp] theorem kitB_bool_int : L2.kitB "bool" "int" = some true := by decide +kernel
@[simp] theorem kitB_bool_str : L2.kitB "bool" "str" = some false := by decide +kernel
@[simp] theorem kitB_bool_bool : L2.kitB "bool" "bool" = some true := by decide +kernel
@[simp] theorem kitB_bool_tuple : L2.kitB "bool" "tuple" = some false := by decide +kernel
@[simp] theorem kitB_bool_list : L2.kitB "bool" "list" = some false := by decide +kernel
@[simp] theorem kitB_bool_dict : L2.kitB "bool" "dict" = some false := by decide +kernel
@[simp] theorem kitB_int_int : L2.kitB "int" "int" = some true := by decide +kernel
@[simp] theorem kitB_int_str : L2.kitB "int" "str" = some false := by decide +kernel
@[simp] theorem kitB_int_bool : L2.kitB "int" "bool" = some false := by decide +kernel
@[simp] theorem kitB_int_tuple : L2.kitB "int" "tuple" = some false := by decide +kernel
@[simp] theorem kitB_int_list : L2.kitB "int" "list" = some false := by decide +kernel
@[simp] theorem kitB_int_dict : L2.kitB "int" "dict" = some false := by decide +kernel
@[simp] theorem kitB_str_int : L2.kitB "str" "int" = some false := by decide +kernel
@[simp] theorem kitB_str_str : L2.kitB "str" "str" = some true := by decide +kernel
@[simp] theorem kitB_str_bool : L2.kitB "str" "bool" = some false := by decide +kernel
@[simp] theorem kitB_str_tuple : L2.kitB "str" "tuple" = some false := by decide +kernel
@[simp] theorem kitB_str_list : L2.kitB "str" "list" = some false := by decide +kernel
@[simp] theorem kitB_str_dict : L2.kitB "str" "dict" = some false := by decide +kernel
@[simp] theorem kitB_list_int : L2.kitB "list" "int" = some false := by decide +kernel
@[simp] theorem kitB_list_str : L2.kitB "list" "str" = some false := by decide +kernel
@[simp] theorem kitB_list_bool : L2.kitB "list" "bool" = some false := by decide +kernel
@[simp] theorem kitB_list_tuple : L2.kitB "list" "tuple" = some false := by decide +kernel
@[simp] theorem kitB_list_list : L2.kitB "list" "list" = some true := by decide +kernel
@[simp] theorem kitB_list_dict : L2.kitB "list" "dict" = some false := by decide +kernel
@[simp] theorem kitB_tuple_int : L2.kitB "tuple" "int" = some false := by decide +kernel
@[simp] theorem kitB_tuple_str : L2.kitB "tuple" "str" = some false := by decide +kernel
@[simp] theorem kitB_tuple_bool : L2.kitB "tuple" "bool" = some false := by decide +kernel
@[simp] theorem kitB_tuple_tuple : L2.kitB "tuple" "tuple" = some true := by decide +kernel
@[simp] theorem kitB_tuple_list : L2.kitB "tuple" "list" = some false := by decide +kernel
@[simp] theorem kitB_tuple_dict : L2.kitB "tuple" "dict" = some false := by decide +kernel
@[simp] theorem kitB_dict_int : L2.kitB "dict" "int" = some false := by decide +kernel
@[simp] theorem kitB_dict_str : L2.kitB "dict" "str" = some false := by decide +kernel
@[simp] theorem kitB_dict_bool : L2.kitB "dict" "bool" = some false := by decide +kernel
@[simp] theorem kitB_dict_tuple : L2.kitB "dict" "tuple" = some false := by decide +kernel
@[simp] theorem kitB_dict_list : L2.kitB "dict" "list" = some false := by decide +kernel
@[simp] theorem kitB_dict_dict : L2.kitB "dict" "dict" = some true := by decide +kernel
@[simp] theorem answer_dat (d : D) (Γ : List Sl) : answer (.rt (.dat d)) Γ = some (.ok (.dat d)) := rfl
@[simp] theorem answer_own (d : D) (Γ : List Sl) : answer (.rt (.own d)) Γ = some (.ok (.own d)) := rfl
@[simp] theorem answer_nx (Γ : List Sl) : answer .nx Γ = some (.ok (.dat .non)) := rfl
@[simp] theorem answer_slot (i : Nat) (Γ : List Sl) : answer (.rt (.slot i)) Γ = match Γ[i]? with
    | some (.own d) => some (.ok (.own d))
    | some (.dat d) => some (.ok (.dat d))
    | _ => none := rfl
@[simp] theorem answerM_dat (d d1 : D) (Γ : List Sl) : answerM (.rt (.dat d)) Γ d1 = some (.ok (.dat d), d1) := rfl
@[simp] theorem answerM_own (d d1 : D) (Γ : List Sl) : answerM (.rt (.own d)) Γ d1 = some (.ok (.own d), d1) := rfl
@[simp] theorem answerM_nx (d1 : D) (Γ : List Sl) : answerM .nx Γ d1 = some (.ok (.dat .non), d1) := rfl
@[simp] theorem answerM_slot (i : Nat) (d1 : D) (Γ : List Sl) : answerM (.rt (.slot i)) Γ d1 = if i = 0 then none else match Γ[i]? with
    | some (.own d) => some (.ok (.own d), d1)
    | some (.dat d) => some (.ok (.dat d), d1)
    | _ => none := rfl
@[simp] theorem lent_cons (d : D) (Γ : List Sl) : lent (.own d :: Γ) = some d := rfl
theorem runDef_ap (n : Nat) (c : M Fl) (ds : List D) : runDef n c ds = match c (st0 n ds) with
  | none => none
  | some (.error e, _) => some (.error e)
  | some (.ok f, Γ) => answer f Γ := rfl
theorem runDefM_ap (n : Nat) (c : M Fl) (d0 : D) (ds : List D) : runDefM n c d0 ds = match c (.own d0 :: st0 (n - 1) ds) with
  | none => none
  | some (.error e, Γ) => (lent Γ).map fun d1 => (.error e, d1)
  | some (.ok f, Γ) => (lent Γ).bind fun d1 => answerM f Γ d1 := rfl
@[simp] theorem addD_int (i j : Int) : addD (.int i) (.int j) = some (.dat (.int (i + j))) := rfl
@[simp] theorem addD_str (x y : Str) : addD (.str x) (.str y) = if x.length + y.length ≤ big then some (.dat (.str (x ++ y))) else none := rfl
@[simp] theorem addD_lst (x y : List D) : addD (.lst x) (.lst y) = if x.length + y.length ≤ big then some (.own (.lst (x ++ y))) else none := rfl
@[simp] theorem addD_tup (x y : List D) : addD (.tup x) (.tup y) = if x.length + y.length ≤ big then some (.dat (.tup (x ++ y))) else none := rfl
@[simp] theorem mulD_int (i j : Int) : mulD (.int i) (.int j) = if sm i || sm j then some (.dat (.int (i * j))) else none := rfl
@[simp] theorem modD_int (i j : Int) : modD (.int i) (.int j) = if 0 < j then some (.dat (.int (i % j))) else none := rfl
@[simp] theorem divD_int (i j : Int) : divD (.int i) (.int j) = if 0 < j ∧ j < 18446744073709551616 then some (.dat (.int (i / j))) else divW i j := rfl
@[simp] theorem powD_int (i j : Int) : powD (.int i) (.int j) = if 0 ≤ j ∧ j ≤ 1000000 ∧ i.natAbs < 18446744073709551616 then some (.dat (.int (i ^ j.toNat))) else none := rfl
@[simp] theorem ltD_int (i j : Int) : ltD (.int i) (.int j) = some (.dat (.bl (decide (i < j)))) := rfl
@[simp] theorem leD_int (i j : Int) : leD (.int i) (.int j) = some (.dat (.bl (decide (i ≤ j)))) := rfl
@[simp] theorem gtD_int (i j : Int) : gtD (.int i) (.int j) = some (.dat (.bl (decide (j < i)))) := rfl
@[simp] theorem geD_int (i j : Int) : geD (.int i) (.int j) = some (.dat (.bl (decide (j ≤ i)))) := rfl
@[simp] theorem eqD_int (i j : Int) : eqD (.int i) (.int j) = some (.dat (.bl (decide (i = j)))) := rfl
@[simp] theorem neD_int (i j : Int) : neD (.int i) (.int j) = some (.dat (.bl (!decide (i = j)))) := rfl
@[simp] theorem lenF_lst (x : List D) : lenF [.lst x] = some (.dat (.int x.length)) := rfl
@[simp] theorem lenF_tup (x : List D) : lenF [.tup x] = some (.dat (.int x.length)) := rfl
@[simp] theorem lenF_str (x : Str) : lenF [.str x] = if x.length ≤ big then some (.dat (.int x.length)) else none := rfl
@[simp] theorem ixD_lst (x : List D) (i : Int) : ixD (.lst x) (.int i) = (L2.atI x i).map .dat := rfl
@[simp] theorem ixD_tup (x : List D) (i : Int) : ixD (.tup x) (.int i) = (L2.atI x i).map .dat := rfl
@[simp] theorem isN_non : isN (.dat .non) = true := rfl
@[simp] theorem listF_lst (x : List D) : listF [.lst x] = some (.own (.lst x)) := rfl
@[simp] theorem listF_tup (x : List D) : listF [.tup x] = some (.own (.lst x)) := rfl
@[simp] theorem tupleF_lst (x : List D) : tupleF [.lst x] = some (.dat (.tup x)) := rfl
@[simp] theorem tupleF_tup (x : List D) : tupleF [.tup x] = some (.dat (.tup x)) := rfl
@[simp] theorem seqI_lst (x : List D) : seqI (.lst x) = some x := rfl
@[simp] theorem seqI_tup (x : List D) : seqI (.tup x) = some x := rfl
@[simp] theorem minF_int (i j : Int) : minF [.int i, .int j] = some (.dat (.int (if j < i then j else i))) := rfl
@[simp] theorem maxF_int (i j : Int) : maxF [.int i, .int j] = some (.dat (.int (if j > i then j else i))) := rfl
@[simp] theorem isLst_lst (x : List D) : isLst (.lst x) = true := rfl
@[simp] theorem appendM_lst (xs : List D) (d : D) : appendM (.lst xs) [d] = if xs.length < big then some (.ok (.dat .non), .lst (xs ++ [d])) else none := rfl
theorem mkTup_ok {ds : List D} (h : ds.length ≤ 1000) : mkTup ds = some (.dat (.tup ds)) := if_pos (Nat.le_trans h (by decide))
theorem mkLst_ok {ds : List D} (h : ds.length ≤ 1000) : mkLst ds = some (.own (.lst ds)) := if_pos (Nat.le_trans h (by decide))
@[simp] theorem mkTup_0 : mkTup [] = some (.dat (.tup [])) := rfl
@[simp] theorem mkLst_0 : mkLst [] = some (.own (.lst [])) := rfl
theorem ixN_nat (n k : Nat) : L2.ixN n (k : Int) = if k < n then some k else none := by
  unfold L2.ixN
  rw [if_pos (Int.natCast_nonneg k)]
  by_cases h : k < n
  · rw [if_pos h, if_pos (by omega)]; simp
  · rw [if_neg h, if_neg (by omega)]
@[simp] theorem ixN_0 (n : Nat) : L2.ixN n 0 = if 0 < n then some 0 else none := ixN_nat n 0
@[simp] theorem ixN_1 (n : Nat) : L2.ixN n 1 = if 1 < n then some 1 else none := ixN_nat n 1
@[simp] theorem ixN_2 (n : Nat) : L2.ixN n 2 = if 2 < n then some 2 else none := ixN_nat n 2
@[simp] theorem ixN_3 (n : Nat) : L2.ixN n 3 = if 3 < n then some 3 else none := ixN_nat n 3
@[simp] theorem ixN_4 (n : Nat) : L2.ixN n 4 = if 4 < n then some 4 else none := ixN_nat n 4
@[simp] theorem ixN_5 (n : Nat) : L2.ixN n 5 = if 5 < n then some 5 else none := ixN_nat n 5
@[simp] theorem ixN_6 (n : Nat) : L2.ixN n 6 = if 6 < n then some 6 else none := ixN_nat n 6
@[simp] theorem ixN_7 (n : Nat) : L2.ixN n 7 = if 7 < n then some 7 else none := ixN_nat n 7
@[simp] theorem ixN_8 (n : Nat) : L2.ixN n 8 = if 8 < n then some 8 else none := ixN_nat n 8
@[simp] theorem ixN_9 (n : Nat) : L2.ixN n 9 = if 9 < n then some 9 else none := ixN_nat n 9
@[simp] theorem ixN_10 (n : Nat) : L2.ixN n 10 = if 10 < n then some 10 else none := ixN_nat n 10
@[simp] theorem ixN_11 (n : Nat) : L2.ixN n 11 = if 11 < n then some 11 else none := ixN_nat n 11
theorem atI_nat {α : Type} (xs : List α) (k : Nat) : L2.atI xs (k : Int) = xs[k]? := by
  unfold L2.atI
  rw [ixN_nat]
  by_cases h : k < xs.length
  · rw [if_pos h]; rfl
  · rw [if_neg h, List.getElem?_eq_none (Nat.le_of_not_lt h)]; rfl
@[simp] theorem atI_0 {α : Type} (xs : List α) : L2.atI xs 0 = xs[0]? := atI_nat xs 0
@[simp] theorem atI_1 {α : Type} (xs : List α) : L2.atI xs 1 = xs[1]? := atI_nat xs 1
@[simp] theorem atI_2 {α : Type} (xs : List α) : L2.atI xs 2 = xs[2]? := atI_nat xs 2
@[simp] theorem atI_3 {α : Type} (xs : List α) : L2.atI xs 3 = xs[3]? := atI_nat xs 3
@[simp] theorem atI_4 {α : Type} (xs : List α) : L2.atI xs 4 = xs[4]? := atI_nat xs 4
@[simp] theorem atI_5 {α : Type} (xs : List α) : L2.atI xs 5 = xs[5]? := atI_nat xs 5
@[simp] theorem atI_6 {α : Type} (xs : List α) : L2.atI xs 6 = xs[6]? := atI_nat xs 6
@[simp] theorem atI_7 {α : Type} (xs : List α) : L2.atI xs 7 = xs[7]? := atI_nat xs 7
@[simp] theorem atI_8 {α : Type} (xs : List α) : L2.atI xs 8 = xs[8]? := atI_nat xs 8
@[simp] theorem atI_9 {α : Type} (xs : List α) : L2.atI xs 9 = xs[9]? := atI_nat xs 9
@[simp] theorem atI_10 {α : Type} (xs : List α) : L2.atI xs 10 = xs[10]? := atI_nat xs 10
@[simp] theorem atI_11 {α : Type} (xs : List α) : L2.atI xs 11 = xs[11]? := atI_nat xs 11
@[simp] theorem setM_lst (xs : List D) (i : Int) (y : D) : setM (.lst xs) [.int i, y] = match L2.ixN xs.length i with
    | some k => some (.ok (.dat .non), .lst (xs.set k y))
    | none => none := rfl
@[simp] theorem big_is : big = 16777216 := rfl
end DL
namespace DL
open PySem L2 PyProof.Rows PySem.W
mutual
def wt : D → Nat
  | .str x => 10 * x.length + 2
  | .int _ => 1921
  | .lst xs => wtL xs + 2
  | .tup xs => wtL xs + 3
  | _ => 5
def wtL : List D → Nat
  | [] => 0
  | x :: xs => wt x + 2 + wtL xs
end
mutual
def fine : D → Bool
  | .non => true
  | .bl _ => true
  | .int i => decide (i.natAbs.log2 < 1920)
  | .str x => x.cps.toList.all fun c => decide (c < 4294967296)
  | .lst xs => fineL xs
  | .tup xs => fineL xs
  | _ => false
def fineL : List D → Bool
  | [] => true
  | x :: xs => fine x && fineL xs
end
theorem len_textFrom : ∀ (ts : List Str) (k : Nat) (acc : Str), (textFrom k acc ts).length ≤ acc.length + (ts.map fun t => t.length + 2).sum
  | [], k, acc => by show acc.length ≤ _; simp
  | t :: r, k, acc => by
    have ih := len_textFrom r (k + 1) (acc ++ (if k > 0 then ", " else "" : String) ++ t)
    have e : (acc ++ (if k > 0 then ", " else "" : String) ++ t).length = acc.length + (if k > 0 then 2 else 0) + t.length := by
      rw [strLen_append, strLen_append]
      split <;> rfl
    have e2 : (textFrom k acc (t :: r)) = textFrom (k + 1) (acc ++ (if k > 0 then ", " else "" : String) ++ t) r := rfl
    rw [e2]
    have e3 : (if k > 0 then 2 else 0) ≤ 2 := by split <;> omega
    rw [e] at ih
    simp only [List.map_cons, List.sum_cons]
    omega
theorem len_listText (ts : List Str) : (listText ts).length ≤ (ts.map fun t => t.length + 2).sum + 2 := by
  have h := len_textFrom ts 0 "["
  unfold listText
  rw [strLen_append]
  have e1 : ("[" : Str).length = 1 := rfl
  have e2 : (("]" : String) : Str).length = 1 := rfl
  rw [e1] at h
  show _ + (("]" : String) : Str).length ≤ _
  rw [e2]
  omega
theorem piled_sum : ∀ ts : List Str, piled ts = (ts.map fun t => t.length + 2).sum
  | [] => rfl
  | t :: r => by rw [piled_cons, piled_sum r, List.map_cons, List.sum_cons]
theorem len_tupleText (ts : List Str) : (tupleText ts).length ≤ (ts.map fun t => t.length + 2).sum + 3 := by
  unfold tupleText
  rw [strLen_append, strLen_append]
  have e1 : ("(" : Str).length = 1 := rfl
  rw [e1]
  have e3 : ((if ts.length == 1 then ",)" else ")" : String) : Str).length ≤ 2 := by split <;> decide
  by_cases h : ts = []
  · subst h
    have : (Str.join ", " ([] : List Str)).length = 0 := rfl
    rw [this]
    omega
  · have := join_length_add ts h
    rw [piled_sum] at this
    omega
mutual
theorem shown_wt : ∀ d : D, fine d = true → (py d).shown.length ≤ wt d ∧ (py d).showable = true
  | .non, _ => ⟨by decide, rfl⟩
  | .bl b, _ => ⟨by cases b <;> decide, rfl⟩
  | .int i, h => by
    have h' : i.natAbs.log2 < 1920 := of_decide_eq_true h
    exact ⟨int_text_len_1921 h', by simpa [PyData.showable, py] using h'⟩
  | .str x, h => by
    have h' : ∀ c ∈ x.cps.toList, c < 16 ^ 8 := fun c hc => by
      have := List.all_eq_true.mp h c hc
      simpa using this
    exact ⟨StrLaws.reprText_len x h', rfl⟩
  | .lst xs, h => by
    obtain ⟨h1, h2⟩ := shownAll_wt xs h
    refine ⟨Nat.le_trans (len_listText _) ?_, ?_⟩
    · show (List.map _ (PyData.shownAll (pyAll xs))).sum + 2 ≤ wtL xs + 2
      omega
    · show PyData.showableAll (pyAll xs) = true
      exact h2
  | .tup xs, h => by
    obtain ⟨h1, h2⟩ := shownAll_wt xs h
    refine ⟨Nat.le_trans (len_tupleText _) ?_, ?_⟩
    · show (List.map _ (PyData.shownAll (pyAll xs))).sum + 3 ≤ wtL xs + 3
      omega
    · show PyData.showableAll (pyAll xs) = true
      exact h2
  | .ty n, h => by cases h
  | .cls n, h => by cases h
  | .dic _ _, h => by cases h
  | .dix _ _, h => by cases h
  | .kn _, h => by cases h
  | .ins _ _ _, h => by cases h
  | .exc _ _ _, h => by cases h
theorem shownAll_wt : ∀ xs : List D, fineL xs = true → ((PyData.shownAll (pyAll xs)).map fun t => t.length + 2).sum ≤ wtL xs ∧ PyData.showableAll (pyAll xs) = true
  | [], _ => ⟨Nat.le_refl _, rfl⟩
  | x :: xs, h => by
    obtain ⟨h1, h2⟩ := Bool.and_eq_true_iff.mp (show (fine x && fineL xs) = true from h)
    obtain ⟨a1, a2⟩ := shown_wt x h1
    obtain ⟨b1, b2⟩ := shownAll_wt xs h2
    constructor
    · show (List.map _ ((py x).shown :: PyData.shownAll (pyAll xs))).sum ≤ wt x + 2 + wtL xs
      rw [List.map_cons, List.sum_cons]
      omega
    · show ((py x).showable && PyData.showableAll (pyAll xs)) = true
      rw [a2, b2]; rfl
end
theorem reprF_ok {d : D} (h1 : okD 60 d = true) (h2 : fine d = true) (h3 : wt d ≤ 16777216) : reprF [d] = some (.dat (.str (py d).shown)) := by
  obtain ⟨a, b⟩ := shown_wt d h2
  show (if _ then _ else _) = _
  rw [if_pos]
  rw [h1, b, decide_eq_true (Nat.le_trans a h3)]
  rfl
def L1 (c : Nat) : D := .str ⟨#[c]⟩
theorem le_L1 (a b : Nat) : dataLe false py (L1 a) (L1 b) = decide (a ≤ b) := by
  show (!(decide ([b] < [a]) || (!decide ([a] < [b]) && false))) = decide (a ≤ b)
  by_cases h : b < a
  · rw [decide_eq_true (show [b] < [a] from List.Lex.rel h), decide_eq_false (show ¬ a ≤ b by omega)]
    rfl
  · have h' : ¬ [b] < [a] := fun z => by
      cases z with
      | rel z => exact h z
      | cons z => cases z
    rw [decide_eq_false h', decide_eq_true (show a ≤ b by omega)]
    simp
theorem sort_L1 (cs : List Nat) : sortD (cs.map L1) = (cs.mergeSort fun a b => decide (a ≤ b)).map L1 := by
  unfold sortD
  exact (List.map_mergeSort fun a _ b _ => (le_L1 a b).symm).symm
theorem sorts_L1 (cs : List Nat) : sortsB (cs.map L1) = true := by
  unfold sortsB
  simp only [Bool.and_eq_true, Bool.or_eq_true, List.all_eq_true, List.mem_map, forall_exists_index, and_imp, forall_apply_eq_imp_iff₂]
  refine ⟨⟨fun a _ => rfl, fun a _ b _ => rfl⟩, .inr fun a _ => rfl⟩
theorem sorted_L1 (cs : List Nat) : sortedF [.lst (cs.map L1)] = some (.own (.lst ((cs.mergeSort fun a b => decide (a ≤ b)).map L1))) := by
  show (if _ then _ else _) = _
  rw [if_pos (sorts_L1 cs), sort_L1]
theorem ms_asc {cs : List Nat} (h : cs.Nodup) : (cs.mergeSort fun a b => decide (a ≤ b)).Pairwise (· < ·) := by
  have hp := List.mergeSort_perm cs fun a b => decide (a ≤ b)
  have h1 := List.pairwise_mergeSort (le := fun a b : Nat => decide (a ≤ b)) (fun a b c h1 h2 => by simp only [decide_eq_true_eq] at *; omega) (fun a b => by simp only [Bool.or_eq_true, decide_eq_true_eq]; omega) cs
  have h2 : (cs.mergeSort fun a b => decide (a ≤ b)).Nodup := hp.symm.nodup h
  exact (h1.and h2).imp fun {a b} z => by
    have := of_decide_eq_true z.1
    have := z.2
    omega
theorem sWhile_stop {c : M Bool} {b : M Fl} {Γ Γ' : List Sl} (h : c Γ = some (.ok false, Γ')) : sWhile c b Γ = some (.ok .nx, Γ') := sWhile_eq (n := 1) (by
  show bnd c _ Γ = _
  rw [bnd_ok h]; rfl)
theorem all_ok {n : Nat} {ds : List D} (h : ∀ d ∈ ds, okD n d = true) : ds.all (okD n) = true := List.all_eq_true.mpr h
theorem neD_nil {xs : List D} (h : ∀ d ∈ xs, okD 59 d = true) : neD (.lst xs) (.lst []) = some (.dat (.bl (!xs.isEmpty))) := by
  show (if (xs.all (okD 59) && true) = true then some (Rf.dat (.bl (!eqL (eqF 59) xs []))) else none) = _
  rw [all_ok h]
  cases xs <;> rfl
theorem popAt_ok {xs : List D} {i : Int} (h0 : 0 ≤ i) (h1 : i < xs.length) (h2 : xs.length ≤ 1000000) : ∃ d, xs[i.toNat]? = some d ∧ popAtM (.lst xs) [.int i] = some (.ok (.dat d), .lst (xs.eraseIdx i.toNat)) := by
  have hk : i.toNat < xs.length := by omega
  refine ⟨xs[i.toNat], List.getElem?_eq_getElem hk, ?_⟩
  have hs : seqIndex? i xs.length = some i.toNat := by
    unfold seqIndex?
    simp only [if_neg (show ¬ i < 0 by omega)]
    rw [if_pos]
    simp only [Bool.and_eq_true, decide_eq_true_eq]
    exact ⟨h0, h1⟩
  have hsm : sm62 i = true := by
    show (decide _ && decide _) = true
    rw [decide_eq_true (by omega), decide_eq_true (by omega)]; rfl
  show (if sm62 i then _ else _) = _
  rw [if_pos hsm, hs]
  simp only [List.getElem?_eq_getElem hk]
theorem sIx_to {n d : Nat} {v : Int} (h : 0 ≤ v) : HT.sIx n d (some v) = min v.toNat n := by
  show (if v < 0 then _ else _) = _
  rw [if_neg (by omega)]
theorem cut_to (xs : List D) {v : Int} (h : 0 ≤ v) : cutD xs none (some v) = xs.take v.toNat := by
  unfold cutD
  rw [sIx_to h, HT.sIx_none, List.drop_zero, Nat.sub_zero, ← List.take_eq_take_min]
theorem cut_from (xs : List D) {v : Int} (h : 0 ≤ v) : cutD xs (some v) none = xs.drop v.toNat := by
  unfold cutD
  rw [sIx_to h, HT.sIx_none]
  by_cases g : v.toNat ≤ xs.length
  · rw [Nat.min_eq_left g, List.take_of_length_le (by rw [List.length_drop]; omega)]
  · rw [Nat.min_eq_right (by omega), Nat.sub_self, List.take_zero, List.drop_eq_nil_of_le (by omega)]
@[simp] theorem sliF_lst (xs : List D) (lo hi : Option Int) : sliF (.lst xs) lo hi = some (.own (.lst (cutD xs lo hi))) := rfl
@[simp] theorem sliF_tup (xs : List D) (lo hi : Option Int) : sliF (.tup xs) lo hi = some (.dat (.tup (cutD xs lo hi))) := rfl
theorem perm_map {α : Type} {f : α → D} {g : D → α} (hg : ∀ a, g (f a) = a) {as : List α} {out : List D} (h : (as.map f).Perm out) : ∃ bs, out = bs.map f ∧ as.Perm bs := by
  refine ⟨out.map g, ?_, ?_⟩
  · rw [List.map_map]
    have : ∀ d ∈ out, (f ∘ g) d = d := fun d hd => by
      obtain ⟨a, _, rfl⟩ := List.mem_map.mp (h.mem_iff.mpr hd)
      show f (g (f a)) = f a
      rw [hg]
    have e : out.map (f ∘ g) = out.map id := List.map_congr_left fun d hd => this d hd
    rw [e, List.map_id]
  · have := h.map g
    rw [List.map_map] at this
    have e : as.map (g ∘ f) = as := by
      conv => rhs; rw [← List.map_id as]
      exact List.map_congr_left fun a _ => hg a
    rw [e] at this
    exact this
def unL1 : D → Nat
  | .str x => x.cps.toList.headD 0
  | _ => 0
theorem unL1_L1 (c : Nat) : unL1 (L1 c) = c := rfl
theorem okD_L1 {n : Nat} (c : Nat) : okD n (L1 c) = true := by cases n <;> rfl
theorem divD_ok {i j : Int} (h1 : 0 < j) (h2 : j ≤ 1000000000) : divD (.int i) (.int j) = some (.dat (.int (i / j))) := by
  show (if _ then _ else _) = _
  rw [if_pos ⟨h1, by omega⟩]
theorem loopL_fm {g : D → M Unit} {ct : M Bool} {ce : M D} {vs : List Nat} {Γ0 : List Sl} {p : D → Bool} {f : D → D} : ∀ (ds acc : List D), (∀ d ∈ ds, ∃ Γa Γb, g d Γ0 = some (.ok (), Γa) ∧ ct Γa = some (.ok (p d), Γb) ∧ (p d = false → wipeG Γb vs = Γ0) ∧ (p d = true → ∃ Γc, ce Γb = some (.ok (f d), Γc) ∧ wipeG Γc vs = Γ0)) → acc.length + ds.length ≤ 16777216 →
    loopL g ct ce vs ds acc Γ0 = some (.ok (acc ++ (ds.filter p).map f), Γ0)
  | [], acc, h, hl => by simp [loopL]
  | d :: ds, acc, h, hl => by
    obtain ⟨Γa, Γb, h1, h2, h3, h4⟩ := h d (by simp)
    simp only [List.length_cons] at hl
    cases hp : p d with
    | false =>
      have ih := loopL_fm ds acc (fun e he => h e (by simp [he])) (by omega)
      rw [List.filter_cons_of_neg (by simp [hp]), ← ih]
      rw [hp] at h2
      simp only [loopL, h1, h2, h3 hp]
    | true =>
      obtain ⟨Γc, h5, h6⟩ := h4 hp
      have ih := loopL_fm ds (acc ++ [f d]) (fun e he => h e (by simp [he])) (by rw [List.length_append, List.length_singleton]; omega)
      have e : acc ++ (f d :: (ds.filter p).map f) = acc ++ [f d] ++ (ds.filter p).map f := by simp
      rw [List.filter_cons_of_pos hp, List.map_cons, e, ← ih]
      rw [hp] at h2
      simp only [loopL, h1, h2, h5, h6]
      rw [if_pos (by show acc.length < 16777216; omega)]
theorem loopL_map {g : D → M Unit} {ce : M D} {vs : List Nat} {Γ0 : List Sl} {f : D → D} (ds : List D) (h : ∀ d ∈ ds, ∃ Γa Γc, g d Γ0 = some (.ok (), Γa) ∧ ce Γa = some (.ok (f d), Γc) ∧ wipeG Γc vs = Γ0) (hl : ds.length ≤ 16777216) :
    loopL g (ret true) ce vs ds [] Γ0 = some (.ok (ds.map f), Γ0) := by
  have key := loopL_fm (ct := ret true) (p := fun _ => true) (f := f) ds [] (fun d hd => by
    obtain ⟨Γa, Γc, h1, h2, h3⟩ := h d hd
    exact ⟨Γa, Γa, h1, rfl, fun z => by simp at z, fun _ => ⟨Γc, h2, h3⟩⟩) (by simpa using hl)
  rw [List.filter_eq_self.mpr (fun _ _ => rfl)] at key
  simpa using key
theorem join_L1 (cs : List Nat) : Txt.join "" (cs.map fun c => (⟨#[c]⟩ : Str)) = ⟨cs.toArray⟩ := by
  show Builtin.Str.glued (PySem.Str.ofString "") _ = _
  rw [StrLaws.glued_eq_join]
  have z : (PySem.Str.ofString "") = (⟨#[]⟩ : Str) := by decide +kernel
  rw [z]
  induction cs with
  | nil => decide +kernel
  | cons c r ih =>
    cases r with
    | nil => rfl
    | cons c' r' =>
      have e : Str.join (⟨#[]⟩ : Str) ((c :: c' :: r').map fun c => (⟨#[c]⟩ : Str)) = (⟨#[c]⟩ : Str) ++ (⟨#[]⟩ : Str) ++ Str.join (⟨#[]⟩ : Str) ((c' :: r').map fun c => (⟨#[c]⟩ : Str)) := rfl
      rw [e, ih]
      show (⟨(#[c] ++ #[]) ++ (c' :: r').toArray⟩ : Str) = ⟨(c :: c' :: r').toArray⟩
      congr 1
      simp
theorem sum_ones : ∀ cs : List Nat, ((cs.map fun c => (⟨#[c]⟩ : Str)).map (·.length)).sum = cs.length
  | [] => rfl
  | c :: r => by
    rw [List.map_cons, List.map_cons, List.sum_cons, sum_ones r]
    show 1 + r.length = _
    rw [List.length_cons]; omega
theorem joinF_L1 (cs : List Nat) (h : cs.length ≤ 1000) : joinF (.str "") (.lst (cs.map L1)) = some (.dat (.str ⟨cs.toArray⟩)) := by
  show (strsD (cs.map L1)).bind _ = _
  have e : cs.map L1 = (cs.map fun c => (⟨#[c]⟩ : Str)).map .str := by rw [List.map_map]; rfl
  rw [e, strsD_map]
  show (if _ then _ else _) = _
  have z : ("" : Str).length = 0 := by decide
  rw [sum_ones, z, if_pos (by omega), join_L1]
mutual
theorem eqF_refl : ∀ (d : D) (n : Nat), okD n d = true → eqF n d d = true
  | .non, n, _ => by cases n <;> rfl
  | .bl b, n, _ => by cases n <;> simp [eqF]
  | .int i, n, _ => by cases n <;> simp [eqF]
  | .str x, n, _ => by cases n <;> simp [eqF]
  | .lst xs, 0, h => by cases h
  | .lst xs, n + 1, h => eqL_refl xs n (List.all_eq_true.mp h)
  | .tup xs, 0, h => by cases h
  | .tup xs, n + 1, h => eqL_refl xs n (List.all_eq_true.mp h)
  | .ty t, n, h => by cases n <;> cases h
  | .cls t, n, h => by cases n <;> cases h
  | .dic _ _, n, h => by cases n <;> cases h
  | .dix _ _, n, h => by cases n <;> cases h
  | .kn _, n, h => by cases n <;> cases h
  | .ins _ _ _, n, h => by cases n <;> cases h
  | .exc _ _ _, n, h => by cases n <;> cases h
  | .lam _ _ _ _ _, n, h => by cases n <;> cases h
theorem eqL_refl : ∀ (xs : List D) (n : Nat), (∀ d ∈ xs, okD n d = true) → eqL (eqF n) xs xs = true
  | [], n, _ => rfl
  | x :: xs, n, h => by
    show (eqF n x x && eqL (eqF n) xs xs) = true
    rw [eqF_refl x n (h x (by simp)), eqL_refl xs n fun d hd => h d (by simp [hd])]; rfl
end
theorem neD_refl {d : D} (h : okD 60 d = true) : neD d d = some (.dat (.bl false)) := by
  show (if (okD 60 d && okD 60 d) = true then some (Rf.dat (.bl (!eqF 60 d d))) else none) = _
  rw [h, eqF_refl d 60 h]; rfl
theorem toNat_inj {a b : Char} (h : a.toNat = b.toNat) : a = b := Char.ext (UInt32.toNat_inj.mp h)
theorem map_toNat_inj : ∀ {as bs : List Char}, as.map Char.toNat = bs.map Char.toNat → as = bs
  | [], [], _ => rfl
  | [], _ :: _, h => by cases h
  | _ :: _, [], h => by cases h
  | a :: as, b :: bs, h => by
    simp only [List.map_cons, List.cons.injEq] at h
    rw [toNat_inj h.1, map_toNat_inj h.2]
@[simp] theorem ofString_inj (s t : String) : (PySem.Str.ofString s = PySem.Str.ofString t) = (s = t) := by
  refine propext ⟨fun h => ?_, fun h => by rw [h]⟩
  rw [PySem.Str.ofString_eq_toList, PySem.Str.ofString_eq_toList] at h
  injection h with h
  have h2 := congrArg Array.toList h
  simp only [List.toList_toArray] at h2
  exact String.toList_inj.mp (map_toNat_inj h2)
@[simp] theorem putM_ins (c : Nat) (f : Str) (c' : Nat) (fs : List Str) (vs : List D) (y : D) : putM c f (.ins c' fs vs) [y] = if c' = c ∧ fs.length < 1000 then some (.ok (.dat .non), .ins c (putN f fs) (putV f y fs vs)) else none := rfl
@[simp] theorem putN_nil (f : Str) : putN f [] = [f] := rfl
@[simp] theorem putN_cons (f k : Str) (r : List Str) : putN f (k :: r) = if k = f then k :: r else k :: putN f r := rfl
@[simp] theorem putV_nil (f : Str) (d : D) (vs : List D) : putV f d [] vs = [d] := rfl
@[simp] theorem putV_cons (f k : Str) (d : D) (r : List Str) (v : D) (vs : List D) : putV f d (k :: r) (v :: vs) = if k = f then d :: vs else v :: putV f d r vs := rfl
@[simp] theorem fldF_ins (c : Nat) (f : Str) (c' : Nat) (fs : List Str) (vs : List D) : fldF c f (.ins c' fs vs) = if c' = c then (lookD fs vs f).map .dat else none := rfl
@[simp] theorem excFld_exc (c : Nat) (f : Str) (c' : Nat) (fs : List Str) (vs : List D) : excFld c f (.exc c' fs vs) = if c' = c then (lookD fs vs f).map .dat else none := rfl
@[simp] theorem lookD_cons (f : Str) (fs : List Str) (v : D) (vs : List D) (g : Str) : lookD (f :: fs) (v :: vs) g = if g = f then some v else lookD fs vs g := rfl
@[simp] theorem isInsB_ins (c : Nat) (m : Str) (c' : Nat) (fs : List Str) (vs : List D) : isInsB c m (.ins c' fs vs) = (decide (c' = c) && !fs.contains m) := rfl
@[simp] theorem makeF_ap (c n : Nat) (φ : Fm) (ds : List D) : makeF c n φ ds = if ds.length + 1 = n then match φ (.ins c [] []) ds with
    | some (.ok (.dat .non), d1) => some (.ok (.own d1))
    | some (.error e, _) => some (.error e)
    | _ => none
  else none := rfl
@[simp] theorem excF_1 (c : Nat) (f : Str) (d : D) : excF c [f] [d] = some (.exc c [f] [d]) := rfl
theorem sSeq_to {a b : M Fl} {Γ Γ' : List Sl} {R : RR Fl} (h : a Γ = some (.ok .nx, Γ')) (g : b Γ' = R) : sSeq a b Γ = R := by
  rw [sSeq_ap, bnd_ok h]; exact g
theorem sSeq_rt {a b : M Fl} {Γ Γ' : List Sl} {r : Rf} (h : a Γ = some (.ok (.rt r), Γ')) : sSeq a b Γ = some (.ok (.rt r), Γ') := by
  rw [sSeq_ap, bnd_ok h]; rfl
theorem sSeq_err {a b : M Fl} {Γ Γ' : List Sl} {e : D} (h : a Γ = some (.error e, Γ')) : sSeq a b Γ = some (.error e, Γ') := by
  rw [sSeq_ap, bnd_err h]
theorem runDef_to {n : Nat} {c : M Fl} {ds : List D} {f : Fl} {Γ Γ' : List Sl} {R : Option Ans} (h0 : st0 n ds = Γ) (h : c Γ = some (.ok f, Γ')) (g : answer f Γ' = R) : runDef n c ds = R := by
  rw [runDef_ap, h0, h]; exact g
theorem runDef_err {n : Nat} {c : M Fl} {ds : List D} {e : D} {Γ Γ' : List Sl} (h0 : st0 n ds = Γ) (h : c Γ = some (.error e, Γ')) : runDef n c ds = some (.error e) := by
  rw [runDef_ap, h0, h]
theorem runDefM_to {n : Nat} {c : M Fl} {d0 d1 : D} {ds : List D} {f : Fl} {Γ Γ' : List Sl} {R : Option (Ans × D)} (h0 : st0 (n - 1) ds = Γ) (h : c (.own d0 :: Γ) = some (.ok f, .own d1 :: Γ')) (g : answerM f (.own d1 :: Γ') d1 = R) : runDefM n c d0 ds = R := by
  rw [runDefM_ap, h0, h]; exact g
end DL
namespace DL
open PySem L2 PyProof.Rows PySem.W
section
variable {α β : Type} {Γ : List Sl}
@[simp] theorem putDM_dic (ks vs : List D) (x y : D) : putDM (.dic ks vs) [x, y] = if okPut ks x && decide (ks.length < big) then some (.ok (.dat .non), .dic (ptK ks x) (ptV ks vs x y)) else none := rfl
@[simp] theorem getD2_dic (ks vs : List D) (x : D) : getD2 (.dic ks vs) x = if okGet ks x then (lkD ks vs x).map .dat else none := rfl
@[simp] theorem inD2_dic (ks vs : List D) (x : D) : inD2 x (.dic ks vs) = if okGet ks x then some (.dat (.bl (hasD ks x))) else none := rfl
@[simp] theorem eqD_bl (i j : Bool) : eqD (.bl i) (.bl j) = some (.dat (.bl (i == j))) := rfl
@[simp] theorem neD_bl (i j : Bool) : neD (.bl i) (.bl j) = some (.dat (.bl (!(i == j)))) := rfl
end
theorem sFor_to {c : M (List D)} {g : D → M Unit} {b : M Fl} {Γ Γ1 : List Sl} {ds : List D} {R : RR Fl} (h : c Γ = some (.ok ds, Γ1)) (k : loopF g b ds Γ1 = R) : sFor c g b Γ = R := by
  rw [sFor_ap, bnd_to h]; exact k
theorem sRng_to {f : List D → Option (List D)} {c : M (List D)} {Γ Γ1 : List Sl} {ds xs : List D} (h : c Γ = some (.ok ds, Γ1)) (k : f ds = some xs) : sRng f c Γ = some (.ok xs, Γ1) := by
  rw [sRng_ap, bnd_to h, k]; rfl
theorem opnd_d {a : M Rf} {Γ Γ1 : List Sl} {x : D} (h : a Γ = some (.ok (.dat x), Γ1)) : opnd a Γ = some (.ok (.dat x), Γ1) := by
  rw [opnd_ap, bnd_to h]; rfl
theorem sBin_op {f : D → D → Option Rf} {a b : M Rf} {Γ Γ1 Γ2 : List Sl} {x y r : D} (ha : opnd a Γ = some (.ok (.dat x), Γ1)) (hb : opnd b Γ1 = some (.ok (.dat y), Γ2)) (hf : f x y = some (.dat r)) : sBin f a b Γ = some (.ok (.dat r), Γ2) := by
  rw [sBin_ap, bnd_to ha, bnd_to hb, app2_ap]
  simp [hf]
theorem sBin_dd {f : D → D → Option Rf} {a b : M Rf} {Γ Γ1 Γ2 : List Sl} {x y r : D} (ha : a Γ = some (.ok (.dat x), Γ1)) (hb : b Γ1 = some (.ok (.dat y), Γ2)) (hf : f x y = some (.dat r)) : sBin f a b Γ = some (.ok (.dat r), Γ2) := sBin_op (opnd_d ha) (opnd_d hb) hf
theorem sRet_to {c : M Rf} {Γ Γ1 : List Sl} {r : Rf} (h : c Γ = some (.ok r, Γ1)) : sRet c Γ = some (.ok (.rt r), Γ1) := by
  rw [sRet_ap, bnd_to h]; rfl
theorem sIf_f {t : M Bool} {a b : M Fl} {Γ Γ1 : List Sl} {R : RR Fl} (h : t Γ = some (.ok false, Γ1)) (k : b Γ1 = R) : sIf t a b Γ = R := by
  rw [sIf_ap, bnd_to h, if_neg (by simp)]; exact k
theorem sLc_to {vs : List Nat} {ci : M (List D)} {g : D → M Unit} {ct : M Bool} {ce : M Rf} {Γ Γ1 Γ2 : List Sl} {ds acc : List D} (h : ci Γ = some (.ok ds, Γ1)) (k : loopL g ct (cap ce) vs ds [] (wipeG Γ1 vs) = some (.ok acc, Γ2)) : sLc vs ci g ct ce Γ = some (.ok (.own (.lst acc)), unwipe Γ1 Γ2 vs) := by
  rw [sLc_ap, bnd_to h, lcM_ap, k]
theorem loopF_nx {g : D → M Unit} {b : M Fl} {d : D} {ds : List D} {Γ Γ1 Γ2 : List Sl} {R : RR Fl} (h : g d Γ = some (.ok (), Γ1)) (k : b Γ1 = some (.ok .nx, Γ2)) (r : loopF g b ds Γ2 = R) : loopF g b (d :: ds) Γ = R := by
  rw [loopF_cons, bnd_to h, bnd_to k]; exact r
theorem loopL_fmk {g : D → M Unit} {ct : M Bool} {ce : M D} {vs : List Nat} {Γ0 : List Sl} {p : D → Bool} {f : D → D} (ds acc : List D) (h : ∀ d ∈ ds, ∃ Γa Γb, g d Γ0 = some (.ok (), Γa) ∧ ct Γa = some (.ok (p d), Γb) ∧ (p d = false → wipeG Γb vs = Γ0) ∧ (p d = true → ∃ Γc, ce Γb = some (.ok (f d), Γc) ∧ wipeG Γc vs = Γ0)) (hl : acc.length + ds.length ≤ 1000000) :
    loopL g ct ce vs ds acc Γ0 = some (.ok (acc ++ (ds.filter p).map f), Γ0) := loopL_fm ds acc h (by omega)
theorem loopDc_new {g : D → M Unit} {ck cv : M D} {vs : List Nat} {Γ0 : List Sl} {fk fv : D → D} {K : D → Bool} (hK : ∀ (x : D) (ks : List D), K x = true → ks.all K = true → okPut ks x = true) : ∀ (ds ks ws : List D), (∀ d ∈ ds, ∃ Γa Γc Γd, g d Γ0 = some (.ok (), Γa) ∧ ck Γa = some (.ok (fk d), Γc) ∧ cv Γc = some (.ok (fv d), Γd) ∧ wipeG Γd vs = Γ0) →
    (∀ d ∈ ds, K (fk d) = true) → ks.all K = true → (ks ++ ds.map fk).Pairwise (fun a b => kE a b = false) → ks.length + ds.length ≤ 100000 → loopDc g (ret true) ck cv vs ds ks ws Γ0 = some (.ok (ks ++ ds.map fk, ws ++ ds.map fv), Γ0)
  | [], ks, ws, h, k1, k2, hp, hl => by simp [loopDc]
  | d :: ds, ks, ws, h, k1, k2, hp, hl => by
    obtain ⟨Γa, Γc, Γd, h1, h2, h3, h4⟩ := h d (by simp)
    simp only [List.length_cons] at hl
    have no : hasD ks (fk d) = false := by
      unfold hasD
      rw [List.any_eq_false]
      intro k hk
      rw [List.pairwise_append] at hp
      simp [hp.2.2 k hk (fk d) (by simp)]
    have e1 : ptK ks (fk d) = ks ++ [fk d] := by unfold ptK; rw [no]; rfl
    have e2 : ptV ks ws (fk d) (fv d) = ws ++ [fv d] := by unfold ptV; rw [no]; rfl
    have e3 := hK (fk d) ks (k1 d (by simp)) k2
    have ih := loopDc_new hK ds (ks ++ [fk d]) (ws ++ [fv d]) (fun e he => h e (by simp [he])) (fun e he => k1 e (by simp [he])) (by rw [List.all_append, k2]; simp [k1 d (by simp)]) (by simpa using hp) (by rw [List.length_append, List.length_singleton]; omega)
    have e : ks ++ (d :: ds).map fk = ks ++ [fk d] ++ ds.map fk := by simp
    have e' : ws ++ (d :: ds).map fv = ws ++ [fv d] ++ ds.map fv := by simp
    rw [e, e', ← ih]
    simp only [loopDc, h1, h2, h3, h4, ret_ap, e1, e2, e3]
    rw [if_pos (by rw [Bool.true_and]; exact decide_eq_true (by show ks.length < 16777216; omega))]
theorem okPut_tup (x : D) (ks : List D) (h : tupK x = true) (g : ks.all tupK = true) : okPut ks x = true := by
  unfold okPut
  rw [h, g]; simp
end DL
namespace DL
open PySem L2
section
variable {Γ : List Sl}
end
end DL
namespace DL
open PySem L2
section
variable {Γ : List Sl}
end
end DL
namespace DL
open PySem L2
section
variable {Γ Γ1 Γ2 : List Sl}
end
end DL
namespace DL
open PySem L2
section
variable {Γ Γ1 Γ2 : List Sl}
end
end DL
namespace DL
open PySem L2
def Ev {α : Type} (m : M α) (Γ : List Sl) (Q : α → List Sl → Prop) : Prop := ∃ a Γ', m Γ = some (.ok a, Γ') ∧ Q a Γ'
section
variable {α : Type} {Γ : List Sl} {Q : Fl → List Sl → Prop}
theorem ev_eq {m : M α} {Q : α → List Sl → Prop} {a : α} {Γ' : List Sl} (h : m Γ = some (.ok a, Γ')) (q : Q a Γ') : Ev m Γ Q := ⟨a, Γ', h, q⟩
theorem Ev.mono {m : M α} {Q Q' : α → List Sl → Prop} (h : Ev m Γ Q) (q : ∀ a Γ', Q a Γ' → Q' a Γ') : Ev m Γ Q' := let ⟨a, Γ', e, p⟩ := h; ⟨a, Γ', e, q a Γ' p⟩
theorem ev_seq {a b : M Fl} (h : Ev a Γ fun f Γ' => f = .nx ∧ Ev b Γ' Q) : Ev (sSeq a b) Γ Q := by
  obtain ⟨f, Γ', e, rfl, f2, Γ2, e2, q⟩ := h
  exact ⟨f2, Γ2, sSeq_to e e2, q⟩
theorem ev_st {a b : M Fl} {Γ' : List Sl} (h : a Γ = some (.ok .nx, Γ')) (q : Ev b Γ' Q) : Ev (sSeq a b) Γ Q := ev_seq ⟨.nx, Γ', h, rfl, q⟩
theorem ev_ret {c : M Rf} {Γ1 : List Sl} {r : Rf} (h : c Γ = some (.ok r, Γ1)) (q : Q (.rt r) Γ1) : Ev (sRet c) Γ Q := ⟨_, _, sRet_to h, q⟩
theorem ev_loop {g : D → M Unit} {b : M Fl} (I : Nat → List Sl → Prop) : ∀ (ds : List D) (k : Nat) (Γ : List Sl), I k Γ → (∀ (i : Nat) (d : D), ds[i]? = some d → ∀ Γ, I (k + i) Γ → ∃ Γa, g d Γ = some (.ok (), Γa) ∧ Ev b Γa fun f Γ' => f = .nx ∧ I (k + i + 1) Γ') →
    ∃ Γ', loopF g b ds Γ = some (.ok .nx, Γ') ∧ I (k + ds.length) Γ'
  | [], k, Γ, h, _ => ⟨Γ, rfl, h⟩
  | d :: ds, k, Γ, h, st => by
    obtain ⟨Γa, e1, f, Γ1, e2, rfl, i1⟩ := st 0 d rfl Γ h
    obtain ⟨Γ2, e3, i2⟩ := ev_loop I ds (k + 1) Γ1 i1 fun i d hd Γ hi => by
      have := st (i + 1) d (by simpa using hd) Γ (by rw [show k + (i + 1) = k + 1 + i by omega]; exact hi)
      rw [show k + (i + 1) + 1 = k + 1 + i + 1 by omega] at this
      exact this
    refine ⟨Γ2, loopF_nx e1 e2 e3, ?_⟩
    rw [List.length_cons, show k + (ds.length + 1) = k + 1 + ds.length by omega]; exact i2
theorem ev_for {c : M (List D)} {g : D → M Unit} {b : M Fl} {ds : List D} {Γ1 : List Sl} (I : Nat → List Sl → Prop) (h : c Γ = some (.ok ds, Γ1)) (h0 : I 0 Γ1) (st : ∀ (i : Nat) (d : D), ds[i]? = some d → ∀ Γ, I i Γ → ∃ Γa, g d Γ = some (.ok (), Γa) ∧ Ev b Γa fun f Γ' => f = .nx ∧ I (i + 1) Γ')
    (q : ∀ Γ', I ds.length Γ' → Q .nx Γ') : Ev (sFor c g b) Γ Q := by
  obtain ⟨Γ2, e, i⟩ := ev_loop I ds 0 Γ1 h0 fun i d hd Γ hi => by
    rw [Nat.zero_add] at hi ⊢
    exact st i d hd Γ hi
  rw [Nat.zero_add] at i
  exact ⟨.nx, Γ2, sFor_to h e, q Γ2 i⟩
theorem ev_def {n : Nat} {c : M Fl} {ds : List D} {r : Ans} (h : Ev c (st0 n ds) fun f Γ' => answer f Γ' = some r) : runDef n c ds = some r := by
  obtain ⟨f, Γ', e, q⟩ := h
  exact runDef_to rfl e q
@[simp] theorem sFg_ap (c : M Rf) : sFg c Γ = bnd c fgR Γ := rfl
@[simp] theorem fgR_kn (ds : List D) : fgR (.dat (.kn ds)) = ret (.dat (.tup ds)) := rfl
end
end DL
namespace DL
variable {Γ : List Sl}
end DL
namespace G
open PySem PySem.Spec PyProof.Rows L2 DL
theorem sc_law_source : FnScope ["_law_script", "_law_k", "_law_cell"] ["_law_script", "_law_k"] (defScope s_law_source) := ⟨rfl, rfl, rfl, by decide +kernel, rfl, by decide +kernel, by decide +kernel⟩
theorem sc_law_next : FnScope ["_law_source_here", "_law_many", "_law_found", "_law_primes", "_law_prime"] ["_law_source_here", "_law_many"] (defScope s_law_next) := ⟨rfl, rfl, rfl, by decide +kernel, rfl, by decide +kernel, by decide +kernel⟩
theorem sc_law_mixed : FnScope ["_law_source_here", "_law_items", "_law_rest", "_law_found"] ["_law_source_here", "_law_items"] (defScope s_law_mixed) := ⟨rfl, rfl, rfl, by decide +kernel, rfl, by decide +kernel, by decide +kernel⟩
theorem sc_law_great_bells : FnScope ["_law_source_here", "_law_names", "_law_name"] ["_law_source_here"] (defScope s_law_great_bells) := ⟨rfl, rfl, rfl, by decide +kernel, rfl, by decide +kernel, by decide +kernel⟩
theorem sc_law_bells : FnScope ["_law_source_here", "_law_top", "_law_found", "_law_room", "_law_name", "_law_period"] ["_law_source_here", "_law_top"] (defScope s_law_bells) := ⟨rfl, rfl, rfl, by decide +kernel, rfl, by decide +kernel, by decide +kernel⟩
theorem sc_law_at : FnScope ["_law_bells_here", "_law_row_here", "_law_time", "_law_found", "_law_name", "_law_period", "_law_x"] ["_law_bells_here", "_law_row_here", "_law_time"] (defScope s_law_at) := ⟨rfl, rfl, rfl, by decide +kernel, rfl, by decide +kernel, by decide +kernel⟩
theorem sc_law_timed : FnScope ["_law_bells_here", "_law_row_here", "_law_many", "_law_found", "_law_time", "_law_chime"] ["_law_bells_here", "_law_row_here", "_law_many"] (defScope s_law_timed) := ⟨rfl, rfl, rfl, by decide +kernel, rfl, by decide +kernel, by decide +kernel⟩
theorem sc_law_chimes : FnScope ["_law_bells_here", "_law_row_here", "_law_many", "_law_time", "_law_chime"] ["_law_bells_here", "_law_row_here", "_law_many"] (defScope s_law_chimes) := ⟨rfl, rfl, rfl, by decide +kernel, rfl, by decide +kernel, by decide +kernel⟩
theorem sc_law_row : FnScope ["_law_source_here", "_law_bells_here", "_law_name", "_law_period"] ["_law_source_here", "_law_bells_here"] (defScope s_law_row) := ⟨rfl, rfl, rfl, by decide +kernel, rfl, by decide +kernel, by decide +kernel⟩
theorem sc_is_name : FnScope ["value"] ["value"] (defScope s_is_name) := ⟨rfl, rfl, rfl, by decide +kernel, rfl, by decide +kernel, by decide +kernel⟩
theorem sc_is_integer : FnScope ["value", "least", "most"] ["value", "least", "most"] (defScope s_is_integer) := ⟨rfl, rfl, rfl, by decide +kernel, rfl, by decide +kernel, by decide +kernel⟩
theorem sc_is_bell : FnScope ["value"] ["value"] (defScope s_is_bell) := ⟨rfl, rfl, rfl, by decide +kernel, rfl, by decide +kernel, by decide +kernel⟩
theorem sc_tower_faults : FnScope ["value", "before", "index", "bell"] ["value"] (defScope s_tower_faults) := ⟨rfl, rfl, rfl, by decide +kernel, rfl, by decide +kernel, by decide +kernel⟩
theorem sc_common_multiple : FnScope ["numbers", "found", "number", "one", "other"] ["numbers"] (defScope s_common_multiple) := ⟨rfl, rfl, rfl, by decide +kernel, rfl, by decide +kernel, by decide +kernel⟩
theorem sc_Tower___init : FnScope ["self", "bells", "index", "name", "period"] ["self", "bells"] (defScope s_Tower___init) := ⟨rfl, rfl, rfl, by decide +kernel, rfl, by decide +kernel, by decide +kernel⟩
theorem sc_is_chime : FnScope ["names", "value", "name"] ["names", "value"] (defScope s_is_chime) := ⟨rfl, rfl, rfl, by decide +kernel, rfl, by decide +kernel, by decide +kernel⟩
theorem sc_Tower_check_heard : FnScope ["self", "value", "index", "chime"] ["self", "value"] (defScope s_Tower_check_heard) := ⟨rfl, rfl, rfl, by decide +kernel, rfl, by decide +kernel, by decide +kernel⟩
theorem sc_heard_text : FnScope ["tower", "heard"] ["tower", "heard"] (defScope s_heard_text) := ⟨rfl, rfl, rfl, by decide +kernel, rfl, by decide +kernel, by decide +kernel⟩
theorem sc_Tower_bells : FnScope ["self"] ["self"] (defScope s_Tower_bells) := ⟨rfl, rfl, rfl, by decide +kernel, rfl, by decide +kernel, by decide +kernel⟩
theorem sc_tower_text : FnScope ["tower", "name", "period"] ["tower"] (defScope s_tower_text) := ⟨rfl, rfl, rfl, by decide +kernel, rfl, by decide +kernel, by decide +kernel⟩
theorem sc_law_bent_page : FnScope ["_law_source_here", "_law_page", "_law_at_here", "_law_way", "_law_sign", "_law_some"] ["_law_source_here", "_law_page"] (defScope s_law_bent_page) := ⟨rfl, rfl, rfl, by decide +kernel, rfl, by decide +kernel, by decide +kernel⟩
theorem sc_law_tower_read : FnScope ["_law_page", "_law_found", "_law_before", "_law_k", "_law_line", "_law_words", "_law_period"] ["_law_page"] (defScope s_law_tower_read) := ⟨rfl, rfl, rfl, by decide +kernel, rfl, by decide +kernel, by decide +kernel⟩
theorem sc_law_read_told : FnScope ["_law_action", "_law_caught", "_law_found", "e"] ["_law_action"] (defScope s_law_read_told) := ⟨rfl, rfl, rfl, by decide +kernel, rfl, by decide +kernel, by decide +kernel⟩
theorem sc_need_text : FnScope ["text"] ["text"] (defScope s_need_text) := ⟨rfl, rfl, rfl, by decide +kernel, rfl, by decide +kernel, by decide +kernel⟩
theorem sc_is_period : FnScope ["word", "period"] ["word"] (defScope s_is_period) := ⟨rfl, rfl, rfl, by decide +kernel, rfl, by decide +kernel, by decide +kernel⟩
theorem sc_read_tower : FnScope ["text", "bells", "before", "index", "line", "number", "words"] ["text"] (defScope s_read_tower) := ⟨rfl, rfl, rfl, by decide +kernel, rfl, by decide +kernel, by decide +kernel⟩
theorem sc_Tower_names : FnScope ["self"] ["self"] (defScope s_Tower_names) := ⟨rfl, rfl, rfl, by decide +kernel, rfl, by decide +kernel, by decide +kernel⟩
theorem sc_read_heard : FnScope ["tower", "text", "lines", "words", "chimes", "index", "word"] ["tower", "text"] (defScope s_read_heard) := ⟨rfl, rfl, rfl, by decide +kernel, rfl, by decide +kernel, by decide +kernel⟩
theorem sc_law_sets : FnScope ["_law_bells_here", "_law_found", "_law_name", "_law_period", "_law_chime"] ["_law_bells_here"] (defScope s_law_sets) := ⟨rfl, rfl, rfl, by decide +kernel, rfl, by decide +kernel, by decide +kernel⟩
theorem sc_law_heard_read : FnScope ["_law_bells_here", "_law_page", "_law_lines", "_law_sets_here", "_law_words", "_law_k", "_law_word"] ["_law_bells_here", "_law_page"] (defScope s_law_heard_read) := ⟨rfl, rfl, rfl, by decide +kernel, rfl, by decide +kernel, by decide +kernel⟩
theorem sc_law : FnScope ["_law_script", "_law_k", "_law_source_here", "_law_bells_here", "_law_tower", "_law_some", "_law_turn", "_law_page", "_law_chimes_page", "_law_again", "_law_told", "_law_due"] ["_law_script"] (defScope s_law) := ⟨rfl, rfl, rfl, by decide +kernel, rfl, by decide +kernel, by decide +kernel⟩
theorem sc_InvalidTower___init : FnScope ["self", "index"] ["self", "index"] (defScope s_InvalidTower___init) := ⟨rfl, rfl, rfl, by decide +kernel, rfl, by decide +kernel, by decide +kernel⟩
theorem sc_InvalidHeard___init : FnScope ["self", "index"] ["self", "index"] (defScope s_InvalidHeard___init) := ⟨rfl, rfl, rfl, by decide +kernel, rfl, by decide +kernel, by decide +kernel⟩
theorem sc_ParseError___init : FnScope ["self", "line", "word"] ["self", "line", "word"] (defScope s_ParseError___init) := ⟨rfl, rfl, rfl, by decide +kernel, rfl, by decide +kernel, by decide +kernel⟩
abbrev k_ParseError : Nat := 5
abbrev k_Tower : Nat := 6
def m_ParseError : Mt := fun c => match c with
  | 0 => some false
  | 1 => some false
  | 2 => some false
  | 3 => some false
  | 4 => some false
  | 5 => some true
  | _ => none
def isE : Nat → Bool := fun c => match c with
  | 0 => true
  | 1 => true
  | 2 => true
  | 3 => true
  | 4 => true
  | 5 => true
  | _ => false
def isTb : Nat → Nat → Option Bool := fun c d => match c, d with
  | _, _ => none
def isBt : Nat → String → Bool := fun c n => match c with
  | _ => false
abbrev isTn : Nat → String → Option Bool := fun _ _ => none
def isiG : List D → Option Rf := isiOF isE isTb isTn isBt
def tupB : List D → Option Rf := tupleKF
abbrev bK (xs : List D) : D := .kn xs
theorem tupB_ok {xs : List D} (h : xs.all atomK = false) : tupB [.lst xs] = some (.dat (bK xs)) := by
  show (if xs.all atomK = true then none else some (Rf.dat (D.kn xs))) = _
  rw [h]; rfl
theorem call_tupB {T : Tx} : CallD T (.type "tuple") tupB := call_tupleKF
noncomputable def c_law_source : M Fl :=
 (sSeq (sSet 2 (sIfE (sB (sBin neD (sVar 0) (sLst sNil))) (sBin ixD (sVar 0) (sBin modD (sVar 1) (sCB lenF (oCons (sVar 0) oNil)))) (sK (.int 1))))
 (sRet (sLst (sCons (cap (sVar 2)) (sCons (cap (sBin mulD (sK (.int 3)) (sVar 1))) (sCons (cap (sIfE (sB (sBin geD (sVar 2) (sBin powD (sK (.int 10)) (sK (.int 18))))) (sBin divD (sVar 2) (sBin powD (sK (.int 10)) (sK (.int 18)))) (sK (.int 0)))) sNil))))))
noncomputable def F_law_source : Fn := runDef 3 c_law_source
noncomputable def c_law_next : M Fl :=
 (sSeq (sIf (sB (sBin gtD (sBin ixD (sVar 0) (sK (.int 2))) (sK (.int 0))))
 (sSeq (sSet 2 (sBin modD (sBin ixD (sVar 0) (sK (.int 2))) (sVar 1)))
 (sSeq (sAsg (gIx (sVar 0) (sK (.int 2))) (sBin divD (sBin ixD (sVar 0) (sK (.int 2))) (sVar 1)))
 (sRet (sVar 2))))
 sSkip)
 (sSeq (sAsg (gIx (sVar 0) (sK (.int 1))) (sBin addD (sBin ixD (sVar 0) (sK (.int 1))) (sK (.int 1))))
 (sSeq (sSet 3 (sLst (sCons (cap (sK (.int 2147483647))) (sCons (cap (sK (.int 2147483629))) (sCons (cap (sK (.int 2147483587))) (sCons (cap (sK (.int 2147483579))) (sCons (cap (sK (.int 2147483563))) (sCons (cap (sK (.int 2147483549))) (sCons (cap (sK (.int 2147483543))) (sCons (cap (sK (.int 2147483497))) sNil))))))))))
 (sSeq (sSet 4 (sBin ixD (sBin addD (sVar 3) (sLst (sCons (cap (sK (.int 2147483489))) (sCons (cap (sK (.int 2147483477))) (sCons (cap (sK (.int 2147483423))) sNil))))) (sBin modD (sBin ixD (sVar 0) (sK (.int 1))) (sK (.int 11)))))
 (sRet (sBin modD (sBin divD (sBin modD (sBin powD (sBin addD (sBin addD (sBin modD (sBin ixD (sVar 0) (sK (.int 0))) (sVar 4)) (sBin mulD (sK (.int 7919)) (sBin ixD (sVar 0) (sK (.int 1))))) (sK (.int 1))) (sK (.int 5))) (sVar 4)) (sK (.int 13))) (sVar 1)))))))
noncomputable def F_law_next : Fm := runDefM 5 c_law_next
noncomputable def c_law_mixed : M Fl :=
 (sSeq (sPar [2, 3] (rCons (sCB listF (oCons (sVar 1) oNil)) (rCons (sLst sNil) rNil)))
 (sSeq (sWhile (sB (sBin neD (sVar 2) (sLst sNil)))
 (sDrop (sMut isLst appendM (sVar 3) (sCons (cap (sMut isLst popAtM (sVar 2) (sCons (cap (sCallM (argM 2 F_law_next) (sVar 0) (sCons (cap (sCB lenF (oCons (sVar 2) oNil))) sNil))) sNil))) sNil))))
 (sRet (sVar 3))))
noncomputable def F_law_mixed : Fm := runDefM 4 c_law_mixed
noncomputable def c_law_great_bells : M Fl :=
 (sSeq (sSet 1 (sCB sortedF (oCons (sSli (sCallM (argM 2 F_law_mixed) (sVar 0) (sCons (cap (sCB listF (oCons (sK (.str "abcdmz")) oNil))) sNil)) (ret none) (sPart (sBin addD (sK (.int 4)) (sCallM (argM 2 F_law_next) (sVar 0) (sCons (cap (sK (.int 2))) sNil))))) oNil)))
 (sRet (sCB tupB (oCons (sLc [2] (sIter (sVar 1)) (gSet 2) (ret true) (sTup (sCons (cap (sVar 2)) (sCons (cap (sBin addD (sK (.int 1)) (sCallM (argM 2 F_law_next) (sVar 0) (sCons (cap (sK (.int 30))) sNil)))) sNil)))) oNil))))
noncomputable def F_law_great_bells : Fm := runDefM 3 c_law_great_bells
noncomputable def c_law_bells : M Fl :=
 (sSeq (sPar [2, 3] (rCons (sLst sNil) (rCons (sVar 1) rNil)))
 (sSeq (sFor (sIter (sCB sortedF (oCons (sSli (sCallM (argM 2 F_law_mixed) (sVar 0) (sCons (cap (sCB listF (oCons (sK (.str "abcdmz")) oNil))) sNil)) (ret none) (sPart (sBin addD (sK (.int 1)) (sCallM (argM 2 F_law_next) (sVar 0) (sCons (cap (sK (.int 4))) sNil))))) oNil))) (gSet 4)
 (sSeq (sSet 5 (sBin addD (sK (.int 1)) (sCallM (argM 2 F_law_next) (sVar 0) (sCons (cap (sCB minF (oCons (sVar 3) (oCons (sK (.int 12)) oNil)))) sNil))))
 (sSeq (sDrop (sMut isLst appendM (sVar 2) (sCons (cap (sTup (sCons (cap (sVar 4)) (sCons (cap (sVar 5)) sNil)))) sNil)))
 (sSet 3 (sBin divD (sVar 3) (sVar 5))))))
 (sRet (sCB tupB (oCons (sVar 2) oNil)))))
noncomputable def F_law_bells : Fm := runDefM 6 c_law_bells
noncomputable def c_law_at : M Fl :=
 (sSeq (sSet 3 (sK (.str "")))
 (sSeq (sFor (sRng zipA2 (sCons (cap (sVar 0)) (sCons (cap (sVar 1)) sNil))) (gTupD 2 (gMore (gTupD 2 (gMore (gSet 4) (gMore (gSet 5) gNone))) (gMore (gSet 6) gNone)))
 (sSet 3 (sBin addD (sVar 3) (sIfE (sB (sBin eqD (sBin modD (sVar 2) (sVar 5)) (sVar 6))) (sVar 4) (sK (.str ""))))))
 (sRet (sVar 3))))
noncomputable def F_law_at : Fn := runDef 7 c_law_at
noncomputable def c_law_timed : M Fl :=
 (sSeq (sPar [3, 4] (rCons (sLst sNil) (rCons (sK (.int 0)) rNil)))
 (sSeq (sWhile (sB (sBin ltD (sCB lenF (oCons (sVar 3) oNil)) (sVar 2)))
 (sSeq (sSet 5 (sCallF (argN 3 F_law_at) (sCons (cap (sVar 0)) (sCons (cap (sVar 1)) (sCons (cap (sVar 4)) sNil)))))
 (sSeq (sIf (sB (sBin neD (sVar 5) (sK (.str ""))))
 (sDrop (sMut isLst appendM (sVar 3) (sCons (cap (sTup (sCons (cap (sVar 4)) (sCons (cap (sVar 5)) sNil)))) sNil)))
 sSkip)
 (sSet 4 (sBin addD (sVar 4) (sK (.int 1)))))))
 (sRet (sVar 3))))
noncomputable def F_law_timed : Fn := runDef 6 c_law_timed
noncomputable def c_law_chimes : M Fl :=
 (sRet (sCB tupleF (oCons (sLc [3, 4] (sIter (sCallF (argN 3 F_law_timed) (sCons (cap (sVar 0)) (sCons (cap (sVar 1)) (sCons (cap (sVar 2)) sNil))))) (gTupD 2 (gMore (gSet 3) (gMore (gSet 4) gNone))) (ret true) (sVar 4)) oNil)))
noncomputable def F_law_chimes : Fn := runDef 5 c_law_chimes
noncomputable def c_law_row : M Fl :=
 (sRet (sCB tupleF (oCons (sLc [2, 3] (sIter (sVar 1)) (gTupD 2 (gMore (gSet 2) (gMore (gSet 3) gNone))) (ret true) (sCallM (argM 2 F_law_next) (sVar 0) (sCons (cap (sVar 3)) sNil))) oNil)))
noncomputable def F_law_row : Fm := runDefM 4 c_law_row
noncomputable def c_is_name : M Fl :=
 (sRet (sAndV (sCB isiG (oCons (sVar 0) (oCons (sK (.ty "str")) oNil))) (sAndV (sBin eqD (sCB lenF (oCons (sVar 0) oNil)) (sK (.int 1))) (sBin inD (sVar 0) (sK (.str "abcdefghijklmnopqrstuvwxyz"))))))
noncomputable def F_is_name : Fn := runDef 1 c_is_name
noncomputable def c_is_integer : M Fl :=
 (sSeq (sIf (sOrT (sNotT (sB (sCB isiG (oCons (sVar 0) (oCons (sK (.ty "int")) oNil))))) (sB (sCB isiG (oCons (sVar 0) (oCons (sK (.ty "bool")) oNil)))))
 (sRet (sK (.bl false)))
 sSkip)
 (sRet (sAndV (sOrV (sIsN (sVar 1)) (sBin leD (sVar 1) (sVar 0))) (sOrV (sIsN (sVar 2)) (sBin leD (sVar 0) (sVar 2))))))
noncomputable def F_is_integer : Fn := runDef 3 c_is_integer
noncomputable def c_is_bell : M Fl :=
 (sSeq (sIf (sOrT (sNotT (sB (sCB isiG (oCons (sVar 0) (oCons (sK (.ty "tuple")) oNil))))) (sOrT (sB (sBin neD (sCB lenF (oCons (sVar 0) oNil)) (sK (.int 2)))) (sNotT (sB (sCallF (argN 1 F_is_name) (sCons (cap (sBin ixD (sVar 0) (sK (.int 0)))) sNil))))))
 (sRet (sK (.bl false)))
 sSkip)
 (sRet (sCallF (argN 3 F_is_integer) (sCons (cap (sBin ixD (sVar 0) (sK (.int 1)))) (sCons (cap (sK (.int 1))) (sCons (cap (sK (.int 30))) sNil))))))
noncomputable def F_is_bell : Fn := runDef 1 c_is_bell
noncomputable def c_tower_faults : M Fl :=
 (sSeq (sIf (sOrT (sNotT (sB (sCB isiG (oCons (sVar 0) (oCons (sK (.ty "tuple")) oNil))))) (sNotT (sB (sChain leD leD (sK (.int 1)) (sCB lenF (oCons (sVar 0) oNil)) (sK (.int 5))))))
 (sRet (sLst (sCons (cap (sK .non)) sNil)))
 sSkip)
 (sSeq (sSet 1 (sK (.str "")))
 (sSeq (sFor (sRng enumA (sCons (cap (sVar 0)) sNil)) (gTupD 2 (gMore (gSet 2) (gMore (gSet 3) gNone)))
 (sSeq (sIf (sOrT (sNotT (sB (sCallF (argN 1 F_is_bell) (sCons (cap (sVar 3)) sNil)))) (sB (sBin leD (sBin ixD (sVar 3) (sK (.int 0))) (sVar 1))))
 (sRet (sLst (sCons (cap (sVar 2)) sNil)))
 sSkip)
 (sSet 1 (sBin ixD (sVar 3) (sK (.int 0))))))
 (sRet (sLst sNil)))))
noncomputable def F_tower_faults : Fn := runDef 4 c_tower_faults
noncomputable def c_common_multiple : M Fl :=
 (sSeq (sSet 1 (sK (.int 1)))
 (sSeq (sFor (sIter (sVar 0)) (gSet 2)
 (sSeq (sPar [3, 4] (rCons (sVar 1) (rCons (sVar 2) rNil)))
 (sSeq (sWhile (sB (sBin gtD (sVar 4) (sK (.int 0))))
 (sPar [3, 4] (rCons (sVar 4) (rCons (sBin modD (sVar 3) (sVar 4)) rNil))))
 (sSet 1 (sBin mulD (sBin divD (sVar 1) (sVar 3)) (sVar 2))))))
 (sRet (sVar 1))))
noncomputable def F_common_multiple : Fn := runDef 5 c_common_multiple
noncomputable def c_Tower___init : M Fl :=
 (sSeq (sFor (sIter (sCallF (argN 1 F_tower_faults) (sCons (cap (sVar 1)) sNil))) (gSet 2)
 (sRaise 1 ["index"] (sCons (cap (sVar 2)) sNil)))
 (sSeq (sPutF 6 "own_bells" (sVar 0) (sVar 1))
 (sSeq (sPutF 6 "own_names" (sVar 0) (sStr1 joinF (sK (.str "")) (sLc [3, 4] (sIter (sVar 1)) (gTupD 2 (gMore (gSet 3) (gMore (gSet 4) gNone))) (ret true) (sVar 3))))
 (sSeq (sPutF 6 "own_periods" (sVar 0) (sCB tupleF (oCons (sLc [3, 4] (sIter (sVar 1)) (gTupD 2 (gMore (gSet 3) (gMore (gSet 4) gNone))) (ret true) (sVar 4)) oNil)))
 (sPutF 6 "own_round" (sVar 0) (sCallF (argN 1 F_common_multiple) (sCons (cap (sOne (fldF 6 "own_periods") (sVar 0))) sNil)))))))
noncomputable def F_Tower___init : Fm := runDefM 5 c_Tower___init
noncomputable def c_is_chime : M Fl :=
 (sSeq (sIf (sOrT (sNotT (sB (sCB isiG (oCons (sVar 1) (oCons (sK (.ty "str")) oNil))))) (sOrT (sB (sBin eqD (sVar 1) (sK (.str "")))) (sB (sBin gtD (sCB lenF (oCons (sVar 1) oNil)) (sCB lenF (oCons (sVar 0) oNil))))))
 (sRet (sK (.bl false)))
 sSkip)
 (sRet (sBin eqD (sStr1 joinF (sK (.str "")) (sLc [2] (sIter (sVar 0)) (gSet 2) (sB (sBin inD (sVar 2) (sVar 1))) (sVar 2))) (sVar 1))))
noncomputable def F_is_chime : Fn := runDef 3 c_is_chime
noncomputable def c_Tower_check_heard : M Fl :=
 (sSeq (sIf (sOrT (sNotT (sB (sCB isiG (oCons (sVar 1) (oCons (sK (.ty "tuple")) oNil))))) (sB (sBin gtD (sCB lenF (oCons (sVar 1) oNil)) (sOne (conF 6 "MAX_HEARD" (.int 200)) (sVar 0)))))
 (sRaise 3 ["index"] (sCons (cap (sK .non)) sNil))
 sSkip)
 (sFor (sRng enumA (sCons (cap (sVar 1)) sNil)) (gTupD 2 (gMore (gSet 2) (gMore (gSet 3) gNone)))
 (sIf (sNotT (sB (sCallF (argN 2 F_is_chime) (sCons (cap (sOne (fldF 6 "own_names") (sVar 0))) (sCons (cap (sVar 3)) sNil)))))
 (sRaise 3 ["index"] (sCons (cap (sVar 2)) sNil))
 sSkip)))
noncomputable def F_Tower_check_heard : Fn := runDef 4 c_Tower_check_heard
noncomputable def c_heard_text : M Fl :=
 (sSeq (sDrop (sMeth 6 "check_heard" (argN 2 F_Tower_check_heard) (sVar 0) (sCons (cap (sVar 1)) sNil)))
 (sRet (sIfE (sB (sBin neD (sVar 1) (sTup sNil))) (sStr1 joinF (sK (.str " ")) (sVar 1)) (sK (.str "nothing")))))
noncomputable def F_heard_text : Fn := runDef 2 c_heard_text
noncomputable def c_Tower_bells : M Fl :=
 (sRet (sOne (fldF 6 "own_bells") (sVar 0)))
noncomputable def F_Tower_bells : Fn := runDef 1 c_Tower_bells
noncomputable def c_tower_text : M Fl :=
 (sRet (sStr1 joinF (sK (.str "\n")) (sLc [1, 2] (sIter (sProp 6 F_Tower_bells (sVar 0))) (gTupD 2 (gMore (gSet 1) (gMore (gSet 2) gNone))) (ret true) (sFs [(sFmt (sVar 1)), (sK (.str " ")), (sFmt (sVar 2))]))))
noncomputable def F_tower_text : Fn := runDef 3 c_tower_text
noncomputable def c_law_bent_page : M Fl :=
 (sSeq (sPar [2, 3] (rCons (sCallM (argM 2 F_law_next) (sVar 0) (sCons (cap (sBin addD (sCB lenF (oCons (sVar 1) oNil)) (sK (.int 1)))) sNil)) (rCons (sCallM (argM 2 F_law_next) (sVar 0) (sCons (cap (sK (.int 8))) sNil)) rNil)))
 (sSeq (sSet 4 (sBin ixD (sLst (sCons (cap (sK (.str " "))) (sCons (cap (sK (.str "\n"))) (sCons (cap (sK (.str "0"))) (sCons (cap (sK (.str "a"))) (sCons (cap (sK (.str "z"))) (sCons (cap (sK (.str "3"))) (sCons (cap (sK (.str "?"))) (sCons (cap (sK (.str "	"))) (sCons (cap (sK (.str "b"))) (sCons (cap (sK (.str "nothing"))) sNil))))))))))) (sCallM (argM 2 F_law_next) (sVar 0) (sCons (cap (sK (.int 10))) sNil))))
 (sSeq (sSet 5 (sLst (sCons (cap (sBin addD (sBin addD (sSli (sVar 1) (ret none) (sPart (sVar 2))) (sVar 4)) (sSli (sVar 1) (sPart (sVar 2)) (ret none)))) (sCons (cap (sBin addD (sSli (sVar 1) (ret none) (sPart (sVar 2))) (sSli (sVar 1) (sPart (sBin addD (sVar 2) (sK (.int 1)))) (ret none)))) (sCons (cap (sBin addD (sBin addD (sSli (sVar 1) (ret none) (sPart (sVar 2))) (sVar 4)) (sSli (sVar 1) (sPart (sBin addD (sVar 2) (sK (.int 1)))) (ret none)))) sNil)))))
 (sSeq (sSet 5 (sBin addD (sVar 5) (sLst (sCons (cap (sBin addD (sVar 1) (sK (.str "\nz 30")))) (sCons (cap (sBin addD (sK (.str "nothing ")) (sVar 1))) (sCons (cap (sBin addD (sVar 1) (sK (.str " nothing")))) (sCons (cap (sBin addD (sVar 1) (sVar 4))) (sCons (cap (sBin addD (sBin addD (sSli (sVar 1) (ret none) (sPart (sVar 2))) (sSli (sVar 1) (ret none) (sPart (sK (.int 1))))) (sSli (sVar 1) (sPart (sVar 2)) (ret none)))) sNil))))))))
 (sRet (sBin ixD (sVar 5) (sVar 3)))))))
noncomputable def F_law_bent_page : Fm := runDefM 6 c_law_bent_page
noncomputable def c_law_tower_read : M Fl :=
 (sSeq (sPar [1, 2] (rCons (sLst sNil) (rCons (sK (.str "")) rNil)))
 (sSeq (sFor (sRng enumA (sCons (cap (sStr1 splitF (sVar 0) (sK (.str "\n")))) sNil)) (gTupD 2 (gMore (gSet 3) (gMore (gSet 4) gNone)))
 (sSeq (sSet 5 (sStr1 splitF (sVar 4) (sK (.str " "))))
 (sSeq (sIf (sOrT (sB (sBin gtD (sVar 3) (sK (.int 4)))) (sOrT (sB (sBin neD (sCB lenF (oCons (sBin ixD (sVar 5) (sK (.int 0))) oNil)) (sK (.int 1)))) (sOrT (sNotT (sB (sChain leD leD (sK (.str "a")) (sBin ixD (sVar 5) (sK (.int 0))) (sK (.str "z"))))) (sB (sBin leD (sBin ixD (sVar 5) (sK (.int 0))) (sVar 2))))))
 (sRet (sTup (sCons (cap (sBin addD (sVar 3) (sK (.int 1)))) (sCons (cap (sK (.int 1))) sNil))))
 sSkip)
 (sSeq (sIf (sOrT (sB (sBin eqD (sCB lenF (oCons (sVar 5) oNil)) (sK (.int 1)))) (sB (sBin notInD (sBin ixD (sVar 5) (sK (.int 1))) (sLc [6] (sRng range2 (sCons (cap (sK (.int 1))) (sCons (cap (sK (.int 31))) sNil))) (gSet 6) (ret true) (sCB strIF (oCons (sVar 6) oNil))))))
 (sRet (sTup (sCons (cap (sBin addD (sVar 3) (sK (.int 1)))) (sCons (cap (sK (.int 2))) sNil))))
 sSkip)
 (sSeq (sIf (sB (sBin gtD (sCB lenF (oCons (sVar 5) oNil)) (sK (.int 2))))
 (sRet (sTup (sCons (cap (sBin addD (sVar 3) (sK (.int 1)))) (sCons (cap (sK (.int 3))) sNil))))
 sSkip)
 (sSeq (sSet 2 (sBin ixD (sVar 5) (sK (.int 0))))
 (sDrop (sMut isLst appendM (sVar 1) (sCons (cap (sTup (sCons (cap (sBin ixD (sVar 5) (sK (.int 0)))) (sCons (cap (sCB intSF (oCons (sBin ixD (sVar 5) (sK (.int 1))) oNil))) sNil)))) sNil)))))))))
 (sRet (sLst (sCons (cap (sCB tupleF (oCons (sVar 1) oNil))) sNil)))))
noncomputable def F_law_tower_read : Fn := runDef 7 c_law_tower_read
noncomputable def c_law_read_told (d0 : D) (o : Ans) : M Fl :=
 (sSeq (sAsg (gTupD 2 (gMore (gSet 1) (gMore (gSet 2) gNone))) (sTup (sCons (cap (sK .non)) (sCons (cap (sK .non)) sNil))))
 (sSeq (sTryK m_ParseError 3 1 (sSet 2 (sLst (sCons (cap (sAct d0 o)) sNil))))
 (sRet (sIfE (sIsT (sVar 1)) (sVar 2) (sTup (sCons (cap (sOne (excFld 5 "line") (sVar 1))) (sCons (cap (sOne (excFld 5 "word") (sVar 1))) sNil)))))))
noncomputable def F_law_read_told (d0 : D) (o : Ans) : Option Ans := runDef 4 (c_law_read_told d0 o) [d0]
noncomputable def c_need_text : M Fl :=
 (sIf (sNotT (sB (sCB isiG (oCons (sVar 0) (oCons (sK (.ty "str")) oNil)))))
 (sRaise 5 ["line", "word"] (sCons (cap (sK (.int 0))) (sCons (cap (sK (.int 0))) sNil)))
 sSkip)
noncomputable def F_need_text : Fn := runDef 1 c_need_text
noncomputable def c_is_period : M Fl :=
 (sRet (sBin inD (sVar 0) (sLc [1] (sRng range2 (sCons (cap (sK (.int 1))) (sCons (cap (sBin addD (sK (.int 30)) (sK (.int 1)))) sNil))) (gSet 1) (ret true) (sCB strIF (oCons (sVar 1) oNil)))))
noncomputable def F_is_period : Fn := runDef 2 c_is_period
noncomputable def c_read_tower : M Fl :=
 (sSeq (sDrop (sCallF (argN 1 F_need_text) (sCons (cap (sVar 0)) sNil)))
 (sSeq (sPar [1, 2] (rCons (sLst sNil) (rCons (sK (.str "")) rNil)))
 (sSeq (sFor (sRng enumA (sCons (cap (sStr1 splitF (sVar 0) (sK (.str "\n")))) sNil)) (gTupD 2 (gMore (gSet 3) (gMore (gSet 4) gNone)))
 (sSeq (sSet 5 (sBin addD (sVar 3) (sK (.int 1))))
 (sSeq (sSet 6 (sStr1 splitF (sVar 4) (sK (.str " "))))
 (sSeq (sIf (sOrT (sB (sBin gtD (sVar 5) (sK (.int 5)))) (sOrT (sNotT (sB (sCallF (argN 1 F_is_name) (sCons (cap (sBin ixD (sVar 6) (sK (.int 0)))) sNil)))) (sB (sBin leD (sBin ixD (sVar 6) (sK (.int 0))) (sVar 2)))))
 (sRaise 5 ["line", "word"] (sCons (cap (sVar 5)) (sCons (cap (sK (.int 1))) sNil)))
 sSkip)
 (sSeq (sIf (sOrT (sB (sBin ltD (sCB lenF (oCons (sVar 6) oNil)) (sK (.int 2)))) (sNotT (sB (sCallF (argN 1 F_is_period) (sCons (cap (sBin ixD (sVar 6) (sK (.int 1)))) sNil)))))
 (sRaise 5 ["line", "word"] (sCons (cap (sVar 5)) (sCons (cap (sK (.int 2))) sNil)))
 sSkip)
 (sSeq (sIf (sB (sBin gtD (sCB lenF (oCons (sVar 6) oNil)) (sK (.int 2))))
 (sRaise 5 ["line", "word"] (sCons (cap (sVar 5)) (sCons (cap (sK (.int 3))) sNil)))
 sSkip)
 (sSeq (sSet 2 (sBin ixD (sVar 6) (sK (.int 0))))
 (sDrop (sMut isLst appendM (sVar 1) (sCons (cap (sTup (sCons (cap (sBin ixD (sVar 6) (sK (.int 0)))) (sCons (cap (sCB intSF (oCons (sBin ixD (sVar 6) (sK (.int 1))) oNil))) sNil)))) sNil))))))))))
 (sRet (sCallF (makeF 6 2 F_Tower___init) (sCons (cap (sCB tupleF (oCons (sVar 1) oNil))) sNil))))))
noncomputable def F_read_tower : Fn := runDef 7 c_read_tower
noncomputable def c_Tower_names : M Fl :=
 (sRet (sOne (fldF 6 "own_names") (sVar 0)))
noncomputable def F_Tower_names : Fn := runDef 1 c_Tower_names
noncomputable def c_read_heard : M Fl :=
 (sSeq (sDrop (sCallF (argN 1 F_need_text) (sCons (cap (sVar 1)) sNil)))
 (sSeq (sSet 2 (sStr1 splitF (sVar 1) (sK (.str "\n"))))
 (sSeq (sSet 3 (sStr1 splitF (sBin ixD (sVar 2) (sK (.int 0))) (sK (.str " "))))
 (sSeq (sIf (sB (sBin eqD (sBin ixD (sVar 3) (sK (.int 0))) (sK (.str "nothing"))))
 (sSeq (sIf (sB (sBin gtD (sCB lenF (oCons (sVar 3) oNil)) (sK (.int 1))))
 (sRaise 5 ["line", "word"] (sCons (cap (sK (.int 1))) (sCons (cap (sK (.int 2))) sNil)))
 sSkip)
 (sSet 4 (sTup sNil)))
 (sSeq (sFor (sRng enumA (sCons (cap (sVar 3)) sNil)) (gTupD 2 (gMore (gSet 5) (gMore (gSet 6) gNone)))
 (sIf (sOrT (sB (sBin geD (sVar 5) (sOne (conF 6 "MAX_HEARD" (.int 200)) (sVar 0)))) (sNotT (sB (sCallF (argN 2 F_is_chime) (sCons (cap (sProp 6 F_Tower_names (sVar 0))) (sCons (cap (sVar 6)) sNil))))))
 (sRaise 5 ["line", "word"] (sCons (cap (sK (.int 1))) (sCons (cap (sBin addD (sVar 5) (sK (.int 1)))) sNil)))
 sSkip))
 (sSet 4 (sCB tupleF (oCons (sVar 3) oNil)))))
 (sSeq (sIf (sB (sBin gtD (sCB lenF (oCons (sVar 2) oNil)) (sK (.int 1))))
 (sRaise 5 ["line", "word"] (sCons (cap (sK (.int 2))) (sCons (cap (sK (.int 1))) sNil)))
 sSkip)
 (sRet (sVar 4)))))))
noncomputable def F_read_heard : Fn := runDef 7 c_read_heard
noncomputable def c_law_sets : M Fl :=
 (sSeq (sSet 1 (sLst (sCons (cap (sK (.str ""))) sNil)))
 (sSeq (sFor (sIter (sVar 0)) (gTupD 2 (gMore (gSet 2) (gMore (gSet 3) gNone)))
 (sSet 1 (sBin addD (sVar 1) (sLc [4] (sIter (sVar 1)) (gSet 4) (ret true) (sBin addD (sVar 4) (sVar 2))))))
 (sRet (sCB sortedF (oCons (sSli (sVar 1) (sPart (sK (.int 1))) (ret none)) oNil)))))
noncomputable def F_law_sets : Fn := runDef 5 c_law_sets
noncomputable def c_law_heard_read : M Fl :=
 (sSeq (sPar [2, 3] (rCons (sStr1 splitF (sVar 1) (sK (.str "\n"))) (rCons (sCallF (argN 1 F_law_sets) (sCons (cap (sVar 0)) sNil)) rNil)))
 (sSeq (sSet 4 (sStr1 splitF (sBin ixD (sVar 2) (sK (.int 0))) (sK (.str " "))))
 (sSeq (sIf (sAndT (sB (sBin eqD (sBin ixD (sVar 4) (sK (.int 0))) (sK (.str "nothing")))) (sB (sBin gtD (sCB lenF (oCons (sVar 4) oNil)) (sK (.int 1)))))
 (sRet (sTup (sCons (cap (sK (.int 1))) (sCons (cap (sK (.int 2))) sNil))))
 sSkip)
 (sSeq (sFor (sRng enumA (sCons (cap (sIfE (sB (sBin neD (sBin ixD (sVar 4) (sK (.int 0))) (sK (.str "nothing")))) (sVar 4) (sLst sNil))) sNil)) (gTupD 2 (gMore (gSet 5) (gMore (gSet 6) gNone)))
 (sIf (sOrT (sB (sBin gtD (sVar 5) (sK (.int 199)))) (sB (sBin notInD (sVar 6) (sVar 3))))
 (sRet (sTup (sCons (cap (sK (.int 1))) (sCons (cap (sBin addD (sVar 5) (sK (.int 1)))) sNil))))
 sSkip))
 (sSeq (sIf (sB (sBin gtD (sCB lenF (oCons (sVar 2) oNil)) (sK (.int 1))))
 (sRet (sTup (sCons (cap (sK (.int 2))) (sCons (cap (sK (.int 1))) sNil))))
 sSkip)
 (sRet (sLst (sCons (cap (sIfE (sB (sBin neD (sBin ixD (sVar 4) (sK (.int 0))) (sK (.str "nothing")))) (sCB tupleF (oCons (sVar 4) oNil)) (sTup sNil))) sNil))))))))
noncomputable def F_law_heard_read : Fn := runDef 7 c_law_heard_read
noncomputable def c_law : M Fl :=
 (sSeq (sFor (sRng range1 (sCons (cap (sCB maxF (oCons (sK (.int 1)) (oCons (sCB minF (oCons (sK (.int 3)) (oCons (sCB lenF (oCons (sVar 0) oNil)) oNil))) oNil)))) sNil)) (gSet 1)
 (sSeq (sSet 2 (sCallF (argN 2 F_law_source) (sCons (cap (sVar 0)) (sCons (cap (sVar 1)) sNil))))
 (sFor (sIter (sTup (sCons (cap (sFg (sCallM (argM 2 F_law_bells) (sVar 2) (sCons (cap (sK (.int 80))) sNil)))) (sCons (cap (sFg (sCallM (argM 1 F_law_great_bells) (sVar 2) sNil))) sNil)))) (gSet 3)
 (sSeq (sPar [4, 5] (rCons (sCallF (makeF 6 2 F_Tower___init) (sCons (cap (sVar 3)) sNil)) (rCons (sCallF (argN 3 F_law_chimes) (sCons (cap (sVar 3)) (sCons (cap (sCallM (argM 2 F_law_row) (sVar 2) (sCons (cap (sVar 3)) sNil))) (sCons (cap (sCallM (argM 2 F_law_next) (sVar 2) (sCons (cap (sK (.int 9))) sNil))) sNil)))) rNil)))
 (sFor (sRng range1 (sCons (cap (sK (.int 8))) sNil)) (gSet 6)
 (sSeq (sPar [7, 8] (rCons (sCallF (argN 1 F_tower_text) (sCons (cap (sVar 4)) sNil)) (rCons (sCallF (argN 2 F_heard_text) (sCons (cap (sVar 4)) (sCons (cap (sVar 5)) sNil))) rNil)))
 (sSeq (sFor (sRng range1 (sCons (cap (sBin divD (sBin addD (sVar 6) (sK (.int 1))) (sK (.int 2)))) sNil)) (gSet 9)
 (sSeq (sSet 7 (sCallM (argM 2 F_law_bent_page) (sVar 2) (sCons (cap (sVar 7)) sNil)))
 (sSet 8 (sCallM (argM 2 F_law_bent_page) (sVar 2) (sCons (cap (sVar 8)) sNil)))))
 (sSeq (sPar [10, 11] (rCons (sLam [7] (sCallF (argN 1 F_read_tower) (sCons (cap (sVar 7)) sNil)) F_law_read_told) (rCons (sCallF (argN 1 F_law_tower_read) (sCons (cap (sVar 7)) sNil)) rNil)))
 (sSeq (sIf (sB (sBin neD (sCB reprF (oCons (sIfE (sB (sCB isiG (oCons (sVar 10) (oCons (sK (.ty "tuple")) oNil)))) (sVar 10) (sLst (sCons (cap (sProp 6 F_Tower_bells (sBin ixD (sVar 10) (sK (.int 0))))) sNil))) oNil)) (sCB reprF (oCons (sVar 11) oNil))))
 (sRet (sK (.bl false)))
 sSkip)
 (sSeq (sSet 10 (sLam [4, 8] (sCallF (argN 2 F_read_heard) (sCons (cap (sVar 4)) (sCons (cap (sVar 8)) sNil))) F_law_read_told))
 (sIf (sB (sBin neD (sCB reprF (oCons (sVar 10) oNil)) (sCB reprF (oCons (sCallF (argN 2 F_law_heard_read) (sCons (cap (sVar 3)) (sCons (cap (sVar 8)) sNil))) oNil))))
 (sRet (sK (.bl false)))
 sSkip)))))))))))
 (sRet (sK (.bl true))))
noncomputable def F_law : Fn := runDef 12 c_law
end G
namespace Law
open PySem DL G
def Src (m : Nat) (s : D) : Prop := ∃ a b c : Int, s = .lst [.int a, .int b, .int c] ∧ 0 ≤ b ∧ b ≤ m
theorem next_hi {a b c n : Int} (hc : 0 < c) (hn : 0 < n) (hn2 : n < 18446744073709551616) : F_law_next (.lst [.int a, .int b, .int c]) [.int n] = some (.ok (.dat (.int (c % n))), .lst [.int a, .int b, .int (c / n)]) := by
  have h2 : n < 18446744073709551616 := by omega
  simp [F_law_next, runDefM_ap, c_law_next, st0, bnd_ap, hc, hn, h2]
theorem prime_at {b : Int} (hb : 0 ≤ b) : ∃ p : Int, 0 < p ∧ p < 2147483648 ∧ L2.atI [D.int 2147483647, D.int 2147483629, D.int 2147483587, D.int 2147483579, D.int 2147483563, D.int 2147483549, D.int 2147483543, D.int 2147483497, D.int 2147483489, D.int 2147483477, D.int 2147483423] (b % 11) = some (.int p) := by
  have : b % 11 = 0 ∨ b % 11 = 1 ∨ b % 11 = 2 ∨ b % 11 = 3 ∨ b % 11 = 4 ∨ b % 11 = 5 ∨ b % 11 = 6 ∨ b % 11 = 7 ∨ b % 11 = 8 ∨ b % 11 = 9 ∨ b % 11 = 10 := by omega
  rcases this with h | h | h | h | h | h | h | h | h | h | h <;> rw [h] <;> exact ⟨_, by decide, by decide, rfl⟩
theorem next_lo {a b c n : Int} (hc : ¬ 0 < c) (hn : 0 < n) (hn2 : n < 18446744073709551616) (hb : 0 ≤ b) (hb2 : b < 1000000000000) : ∃ r, 0 ≤ r ∧ r < n ∧ F_law_next (.lst [.int a, .int b, .int c]) [.int n] = some (.ok (.dat (.int r)), .lst [.int a, .int (b + 1), .int c]) := by
  have h2 : n < 18446744073709551616 := by omega
  obtain ⟨p, p1, p2, hp⟩ := prime_at (b := b + 1) (by omega)
  have h3 : (a % p + 7919 * (b + 1) + 1).natAbs < 18446744073709551616 := by
    have := Int.emod_nonneg a (by omega : p ≠ 0)
    have := Int.emod_lt_of_pos a p1
    omega
  refine ⟨(a % p + 7919 * (b + 1) + 1) ^ 5 % p / 13 % n, Int.emod_nonneg _ (by omega), Int.emod_lt_of_pos _ hn, ?_⟩
  simp [F_law_next, runDefM_ap, c_law_next, st0, bnd_ap, hc, hn, h2, hp, mkLst_ok, p1, h3]
theorem next_ok {m : Nat} {s : D} {n : Int} (h : Src m s) (hm : m < 100000000000) (hn : 0 < n) (hn2 : n < 18446744073709551616) : ∃ r s', F_law_next s [.int n] = some (.ok (.dat (.int r)), s') ∧ 0 ≤ r ∧ r < n ∧ Src (m + 1) s' := by
  obtain ⟨a, b, c, rfl, h1, h2⟩ := h
  by_cases hc : 0 < c
  · exact ⟨_, _, next_hi hc hn hn2, Int.emod_nonneg _ (by omega), Int.emod_lt_of_pos _ hn, _, _, _, rfl, h1, by omega⟩
  · obtain ⟨r, r1, r2, e⟩ := next_lo (a := a) hc hn hn2 h1 (by omega)
    exact ⟨r, _, e, r1, r2, _, _, _, rfl, by omega, by omega⟩
theorem source_ok (ns : List Int) (k : Nat) : ∃ s, Src (3 * k) s ∧ F_law_source [.lst (ns.map .int), .int k] = some (.ok (.own s)) := by
  have ok : ∀ d ∈ ns.map D.int, okD 59 d = true := fun d hd => by
    obtain ⟨i, _, rfl⟩ := List.mem_map.mp hd
    rfl
  cases ns with
  | nil => exact ⟨_, ⟨1, 3 * k, 0, rfl, by omega, by omega⟩, by simp [F_law_source, runDef_ap, c_law_source, st0, bnd_ap, neD_nil, mkLst_ok]⟩
  | cons n0 nr =>
    have hl : 0 < ((n0 :: nr).map D.int).length := by simp
    have hi : ∃ cell, L2.atI ((n0 :: nr).map D.int) ((k : Int) % (((n0 :: nr).map D.int).length : Nat)) = some (.int cell) := by
      refine ⟨(n0 :: nr)[k % (n0 :: nr).length]'(Nat.mod_lt _ (by simp)), ?_⟩
      rw [← Int.natCast_emod, atI_nat, List.getElem?_map, List.length_map, List.getElem?_eq_getElem (Nat.mod_lt _ (by simp))]
      rfl
    obtain ⟨cell, hi⟩ := hi
    have hne : ((n0 :: nr).map D.int).isEmpty = false := rfl
    generalize (n0 :: nr).map D.int = ds at *
    by_cases h : (1000000000000000000 : Int) ≤ cell
    · exact ⟨_, ⟨cell, 3 * k, cell / 1000000000000000000, rfl, by omega, by omega⟩, by simp [F_law_source, runDef_ap, c_law_source, st0, bnd_ap, neD_nil ok, hne, hl, hi, h, mkLst_ok]⟩
    · exact ⟨_, ⟨cell, 3 * k, 0, rfl, by omega, by omega⟩, by simp [F_law_source, runDef_ap, c_law_source, st0, bnd_ap, neD_nil ok, hne, hl, hi, h, mkLst_ok]⟩
theorem perm_erase {α : Type} : ∀ {xs : List α} {k : Nat} {d : α}, xs[k]? = some d → xs.Perm (d :: xs.eraseIdx k)
  | [], _, _, h => by simp at h
  | x :: xs, 0, d, h => by simp at h; subst h; exact .refl _
  | x :: xs, k + 1, d, h => by
    have h' : xs[k]? = some d := by simpa using h
    exact ((perm_erase h').cons x).trans (.swap _ _ _)
abbrev mixC : M Bool := sB (sBin neD (sVar 2) (sLst sNil))
noncomputable abbrev mixB : M Fl := sDrop (sMut isLst appendM (sVar 3) (sCons (cap (sMut isLst popAtM (sVar 2) (sCons (cap (sCallM (argM 2 F_law_next) (sVar 0) (sCons (cap (sCB lenF (oCons (sVar 2) oNil))) sNil))) sNil))) sNil))
theorem mixed_loop : ∀ (k : Nat) (rest found : List D) (s it : D) (m : Nat), rest.length = k → Src m s → m + k < 100000000000 → k ≤ 1000 → found.length + k ≤ 2000 → (∀ d ∈ rest, okD 59 d = true) →
    ∃ s' out, Src (m + k) s' ∧ (found ++ rest).Perm out ∧ sWhile mixC mixB [.own s, .dat it, .own (.lst rest), .own (.lst found)] = some (.ok .nx, [.own s', .dat it, .own (.lst []), .own (.lst out)])
  | 0, rest, found, s, it, m, hl, hs, hm, hk, hf, ok => by
    have : rest = [] := List.length_eq_zero_iff.mp hl
    subst this
    refine ⟨s, found, hs, by simp, sWhile_stop ?_⟩
    simp [bnd_ap, neD_nil]
  | k + 1, rest, found, s, it, m, hl, hs, hm, hk, hf, ok => by
    obtain ⟨r, s1, e1, r0, r1, hs1⟩ := next_ok (n := (rest.length : Int)) hs (by omega) (by omega) (by omega)
    obtain ⟨d, hd, e2⟩ := popAt_ok (xs := rest) r0 r1 (by omega)
    have hr : r.toNat < rest.length := by omega
    have hne : rest.isEmpty = false := by
      cases rest with
      | nil => simp at hl
      | cons => rfl
    obtain ⟨s', out, g1, g2, g3⟩ := mixed_loop k (rest.eraseIdx r.toNat) (found ++ [d]) s1 it (m + 1) (by rw [List.length_eraseIdx_of_lt hr]; omega) hs1 (by omega) (by omega) (by simp; omega)
      (fun x hx => ok x (List.mem_of_mem_eraseIdx hx))
    refine ⟨s', out, by rw [show m + (k + 1) = m + 1 + k by omega]; exact g1, ?_, ?_⟩
    · refine List.Perm.trans ?_ g2
      rw [List.append_assoc]
      exact List.Perm.append_left _ (perm_erase hd)
    · rw [← g3]
      refine sWhile_step (Γ1 := [.own s, .dat it, .own (.lst rest), .own (.lst found)]) (f := .nx) ?_ ?_ (.inl rfl)
      · simp [bnd_ap, neD_nil ok, hne]
      · have hlen : found.length < 16777216 := by omega
        simp [bnd_ap, e1, e2, hlen]
theorem mixed_ok {items : List D} {s : D} {m : Nat} (hs : Src m s) (hm : m + items.length < 100000000000) (hk : items.length ≤ 1000) (ok : ∀ d ∈ items, okD 59 d = true) :
    ∃ s' out, Src (m + items.length) s' ∧ items.Perm out ∧ F_law_mixed s [.lst items] = some (.ok (.own (.lst out)), s') := by
  obtain ⟨s', out, h1, h2, h3⟩ := mixed_loop items.length items [] s (.lst items) m rfl hs hm hk (by simp; omega) ok
  refine ⟨s', out, h1, h2, ?_⟩
  simp [F_law_mixed, runDefM_ap, c_law_mixed, st0, bnd_ap]
  rw [h3]
  simp [bnd_ap]
end Law
namespace Law
open PySem DL G
def letters : List Nat := [97, 98, 99, 100, 109, 122]
theorem letters_are : strD "abcdmz" = letters.map L1 := by
  show (("abcdmz" : Str).cps.toList.map fun c => D.str ⟨#[c]⟩) = _
  rw [show ("abcdmz" : Str).cps.toList = letters by decide +kernel]
  rfl
theorem listF_letters : listF [.str "abcdmz"] = some (.own (.lst (letters.map L1))) := by
  show (if ("abcdmz" : Str).length ≤ big then some (Rf.own (.lst (strD "abcdmz"))) else none) = _
  rw [if_pos (by decide +kernel), letters_are]
def bellD (q : Nat × Int) : D := .tup [L1 q.1, .int q.2]
structure Bells (lo hi : Nat) (per : Int) (l : List (Nat × Int)) : Prop where
  lo : lo ≤ l.length
  hi : l.length ≤ hi
  asc : (l.map (·.1)).Pairwise (· < ·)
  abc : ∀ q ∈ l, 97 ≤ q.1 ∧ q.1 ≤ 122
  per : ∀ q ∈ l, 1 ≤ q.2 ∧ q.2 ≤ per
theorem names_ok {s : D} {m : Nat} (hs : Src m s) (hm : m < 10000000000) : ∃ s' cs, Src (m + 6) s' ∧ letters.Perm cs ∧ F_law_mixed s [.lst (letters.map L1)] = some (.ok (.own (.lst (cs.map L1))), s') := by
  obtain ⟨s', out, h1, h2, h3⟩ := mixed_ok (items := letters.map L1) hs (by rw [List.length_map]; show m + 6 < _; omega) (by rw [List.length_map]; decide) (fun d hd => by
    obtain ⟨c, _, rfl⟩ := List.mem_map.mp hd
    exact okD_L1 c)
  obtain ⟨cs, rfl, h4⟩ := perm_map unL1_L1 h2
  exact ⟨s', cs, h1, h4, h3⟩
def firstN (cs : List Nat) (n : Nat) : List Nat := (cs.take n).mergeSort fun a b => decide (a ≤ b)
theorem firstN_ok {cs : List Nat} (h : letters.Perm cs) {n : Nat} (hn : n ≤ 6) : (firstN cs n).length = n ∧ (firstN cs n).Pairwise (· < ·) ∧ ∀ c ∈ firstN cs n, c ∈ letters := by
  have hl : cs.length = 6 := h.length_eq.symm
  have hp : (firstN cs n).Perm (cs.take n) := List.mergeSort_perm _ _
  have nd : cs.Nodup := h.nodup (by decide)
  refine ⟨by rw [hp.length_eq, List.length_take]; omega, ms_asc ((List.take_sublist n cs).nodup nd), fun c hc => ?_⟩
  exact h.mem_iff.mpr (List.mem_of_mem_take (hp.mem_iff.mp hc))
noncomputable abbrev gbE : M Rf := sTup (sCons (cap (sVar 2)) (sCons (cap (sBin addD (sK (.int 1)) (sCallM (argM 2 F_law_next) (sVar 0) (sCons (cap (sK (.int 30))) sNil)))) sNil))
theorem great_loop : ∀ (cs : List Nat) (acc : List D) (s nd : D) (m : Nat), Src m s → m + cs.length < 100000000000 → cs.length ≤ 100 → acc.length + cs.length ≤ 1000 → ∃ s' ps, ps.length = cs.length ∧ (∀ p ∈ ps, (1 : Int) ≤ p ∧ p ≤ 30) ∧ Src (m + cs.length) s' ∧
    loopL (gSet 2) (DL.ret true) (cap gbE) [2] (cs.map L1) acc [.own s, .dat nd, .un] = some (.ok (acc ++ (cs.zip ps).map bellD), [.own s', .dat nd, .un])
  | [], acc, s, nd, m, hs, hm, hc, ha => ⟨s, [], rfl, by simp, hs, by simp [loopL]⟩
  | c :: cs, acc, s, nd, m, hs, hm, hc, ha => by
    simp only [List.length_cons] at hm hc ha
    obtain ⟨r, s1, e1, r0, r1, hs1⟩ := next_ok (n := 30) hs (by omega) (by omega) (by omega)
    obtain ⟨s', ps, h1, h2, h3, h4⟩ := great_loop cs (acc ++ [bellD (c, 1 + r)]) s1 nd (m + 1) hs1 (by omega) (by omega) (by rw [List.length_append, List.length_singleton]; omega)
    refine ⟨s', (1 + r) :: ps, by simp [h1], ?_, by rw [List.length_cons, show m + (cs.length + 1) = m + 1 + cs.length by omega]; exact h3, ?_⟩
    · intro p hp
      rcases List.mem_cons.mp hp with rfl | hp
      · omega
      · exact h2 p hp
    · have hacc : acc.length < 16777216 := by omega
      have e : acc ++ (((c :: cs).zip ((1 + r) :: ps)).map bellD) = (acc ++ [bellD (c, 1 + r)]) ++ (cs.zip ps).map bellD := by simp
      rw [e, ← h4]
      simp [loopL, bnd_ap, e1, mkTup_ok, hacc, wipeG, bellD]
theorem srt (cs : List Nat) (n : Nat) : sortedF [.lst ((cs.map L1).take n)] = some (.own (.lst ((firstN cs n).map L1))) := by
  rw [← List.map_take, sorted_L1]; rfl
theorem zip_fst_eq {α β : Type} : ∀ {as : List α} {bs : List β}, bs.length = as.length → (as.zip bs).map (·.1) = as
  | [], _, _ => rfl
  | a :: as, b :: bs, h => by simp only [List.zip_cons_cons, List.map_cons]; rw [zip_fst_eq (by simpa using h)]
theorem bells_of {cs : List Nat} {ps : List Int} {lo hi : Nat} {per : Int} (hl : ps.length = cs.length) (h1 : lo ≤ cs.length) (h2 : cs.length ≤ hi) (asc : cs.Pairwise (· < ·)) (abc : ∀ c ∈ cs, c ∈ letters) (hp : ∀ p ∈ ps, (1 : Int) ≤ p ∧ p ≤ per) : Bells lo hi per (cs.zip ps) where
  lo := by rw [List.length_zip]; omega
  hi := by rw [List.length_zip]; omega
  asc := by rw [zip_fst_eq hl]; exact asc
  abc := fun q hq => (by decide : ∀ c ∈ letters, 97 ≤ c ∧ c ≤ 122) _ (abc _ (List.of_mem_zip hq).1)
  per := fun q hq => hp _ (List.of_mem_zip hq).2
noncomputable abbrev bB : M Fl := (sSeq (sSet 5 (sBin addD (sK (.int 1)) (sCallM (argM 2 F_law_next) (sVar 0) (sCons (cap (sCB minF (oCons (sVar 3) (oCons (sK (.int 12)) oNil)))) sNil))))
 (sSeq (sDrop (sMut isLst appendM (sVar 2) (sCons (cap (sTup (sCons (cap (sVar 4)) (sCons (cap (sVar 5)) sNil)))) sNil)))
 (sSet 3 (sBin divD (sVar 3) (sVar 5)))))
theorem bells_loop : ∀ (cs : List Nat) (fl : List D) (s top : D) (room : Int) (x y : Sl) (m : Nat), Src m s → m + cs.length < 100000000000 → cs.length ≤ 100 → fl.length + cs.length ≤ 1000 → 1 ≤ room → room ≤ 100000 → (x = .un ∨ ∃ d, x = .dat d) → (y = .un ∨ ∃ d, y = .dat d) →
    ∃ s' ps room' x' y', ps.length = cs.length ∧ (∀ p ∈ ps, (1 : Int) ≤ p ∧ p ≤ 12) ∧ Src (m + cs.length) s' ∧
    loopF (gSet 4) bB (cs.map L1) [.own s, .dat top, .own (.lst fl), .dat (.int room), x, y] = some (.ok .nx, [.own s', .dat top, .own (.lst (fl ++ (cs.zip ps).map bellD)), .dat (.int room'), x', y'])
  | [], fl, s, top, room, x, y, m, hs, hm, hc, ha, h1, h2, hx, hy => ⟨s, [], room, x, y, rfl, by simp, hs, by simp⟩
  | c :: cs, fl, s, top, room, x, y, m, hs, hm, hc, ha, h1, h2, hx, hy => by
    simp only [List.length_cons] at hm hc ha
    obtain ⟨r, s1, e1, r0, r1, hs1⟩ := next_ok (n := if (12 : Int) < room then 12 else room) hs (by omega) (by split <;> omega) (by split <;> omega)
    have hr : 1 + r ≤ room ∧ r < 12 := by split at r1 <;> omega
    have hroom : 1 ≤ room / (1 + r) := by
      have := Int.le_ediv_of_mul_le (c := 1 + r) (a := 1) (b := room) (by omega) (by omega)
      exact this
    have hroom2 : room / (1 + r) ≤ 100000 := Int.le_trans (Int.ediv_le_self _ (by omega)) h2
    obtain ⟨s', ps, room', x', y', g1, g2, g3, g4⟩ := bells_loop cs (fl ++ [bellD (c, 1 + r)]) s1 top (room / (1 + r)) (.dat (L1 c)) (.dat (.int (1 + r))) (m + 1) hs1 (by omega) (by omega) (by rw [List.length_append, List.length_singleton]; omega) hroom hroom2 (.inr ⟨_, rfl⟩) (.inr ⟨_, rfl⟩)
    refine ⟨s', (1 + r) :: ps, room', x', y', by simp [g1], ?_, by rw [List.length_cons, show m + (cs.length + 1) = m + 1 + cs.length by omega]; exact g3, ?_⟩
    · intro p hp
      rcases List.mem_cons.mp hp with rfl | hp
      · omega
      · exact g2 p hp
    · have hacc : fl.length < 16777216 := by omega
      have p0 : 0 < 1 + r := by omega
      have p1 : 1 + r < 18446744073709551616 := by omega
      have e : fl ++ (((c :: cs).zip ((1 + r) :: ps)).map bellD) = (fl ++ [bellD (c, 1 + r)]) ++ (cs.zip ps).map bellD := by simp
      rw [e, ← g4, List.map_cons, loopF_cons]
      simp [bnd_ap, e1, mkTup_ok, hacc, bellD, p0, p1]
theorem bells_na {lo hi : Nat} {per : Int} {l : List (Nat × Int)} (b : Bells lo hi per l) (h : 1 ≤ lo) : (l.map bellD).all atomK = false := by
  have := b.lo
  cases l with
  | nil => simp at this; omega
  | cons q l => rfl
theorem law_bells_in {s : D} {m : Nat} {top : Int} (hs : Src m s) (hm : m < 1000000000) (ht : 1 ≤ top) (ht2 : top ≤ 100000) : ∃ s' l, Bells 1 4 12 l ∧ Src (m + 12) s' ∧ F_law_bells s [.int top] = some (.ok (.dat (bK (l.map bellD))), s') ∧ ∀ q ∈ l, q.1 ∈ letters := by
  obtain ⟨s1, cs, hs1, hp, e1⟩ := names_ok hs (by omega)
  obtain ⟨r, s2, e2, r0, r1, hs2⟩ := next_ok (n := 4) hs1 (by omega) (by omega) (by omega)
  obtain ⟨f1, f2, f3⟩ := firstN_ok hp (n := (1 + r).toNat) (by omega)
  have c1 := cut_to (cs.map L1) (v := 1 + r) (by omega)
  have c2 := srt cs (1 + r).toNat
  generalize firstN cs (1 + r).toNat = ns at *
  obtain ⟨s', ps, room', x', y', h1, h2, h3, h4⟩ := bells_loop ns [] s2 (.int top) top .un .un (m + 6 + 1) hs2 (by omega) (by omega) (by simp; omega) ht ht2 (.inl rfl) (.inl rfl)
  obtain ⟨a, b, c, rfl, hb, hb2⟩ := h3
  refine ⟨_, ns.zip ps, bells_of h1 (by omega) (by omega) f2 f3 h2, ⟨a, b, c, rfl, hb, by omega⟩, ?_, fun q hq => f3 _ (List.of_mem_zip hq).1⟩
  have hz := bells_na (bells_of (lo := 1) (hi := 4) (per := 12) h1 (by omega) (by omega) f2 f3 h2) (by omega)
  have ht := tupB_ok hz
  generalize bK ((ns.zip ps).map bellD) = BK at *
  simp [F_law_bells, runDefM_ap, c_law_bells, st0, bnd_ap, listF_letters, e1, e2, c1, c2]
  rw [h4]
  simp [bnd_ap, ht]
theorem law_bells_ok {s : D} {m : Nat} {top : Int} (hs : Src m s) (hm : m < 1000000000) (ht : 1 ≤ top) (ht2 : top ≤ 100000) : ∃ s' l, Bells 1 4 12 l ∧ Src (m + 12) s' ∧ F_law_bells s [.int top] = some (.ok (.dat (bK (l.map bellD))), s') := by
  obtain ⟨s', l, h1, h2, h3, _⟩ := law_bells_in hs hm ht ht2
  exact ⟨s', l, h1, h2, h3⟩
end Law
namespace Law
open PySem DL G
def pk : D → Bool
  | .non | .bl _ | .int _ | .lst _ | .tup _ | .dic _ _ => true
  | .str x => decide (x.length ≤ 16777216)
  | _ => false
def codes : D → List Nat
  | .str x => x.cps.toList
  | _ => []
def isNm : D → Bool
  | .str x => match x.cps.toList with
    | [c] => decide (97 ≤ c ∧ c ≤ 122)
    | _ => false
  | _ => false
theorem len_list (x : Str) : x.length = x.cps.toList.length := by
  show x.cps.size = _
  rw [Array.length_toList]
theorem abc_are : ("abcdefghijklmnopqrstuvwxyz" : Str).cps.toList = (List.range 26).map (97 + ·) := by decide +kernel
theorem mem_abc (c : Nat) : decide (c ∈ ("abcdefghijklmnopqrstuvwxyz" : Str).cps.toList) = decide (97 ≤ c ∧ c ≤ 122) := by
  rw [abc_are]
  refine decide_eq_decide.mpr ?_
  simp only [List.mem_map, List.mem_range]
  constructor
  · rintro ⟨a, h, rfl⟩; omega
  · intro h; exact ⟨c - 97, by omega, by omega⟩
theorem in_abc {x : Str} {c : Nat} (h : x.cps.toList = [c]) : inD (.str x) (.str "abcdefghijklmnopqrstuvwxyz") = some (.dat (.bl (decide (97 ≤ c ∧ c ≤ 122)))) := by
  show ((match x.cps.toList with
    | [c] => some (decide (c ∈ ("abcdefghijklmnopqrstuvwxyz" : Str).cps.toList))
    | _ => some (!(Builtin.Str.occurrences "abcdefghijklmnopqrstuvwxyz" x 0 ("abcdefghijklmnopqrstuvwxyz" : Str).length 1).isEmpty)).map fun b => Rf.dat (.bl b)) = _
  rw [h]
  simp only [mem_abc]
  rfl
theorem is_name_ok (d : D) (h : pk d = true) : F_is_name [d] = some (.ok (.dat (.bl (isNm d)))) := by
  cases d with
  | str x =>
    have hx : x.length ≤ 16777216 := of_decide_eq_true h
    by_cases h1 : x.length = 1
    · have : ∃ c, x.cps.toList = [c] := by
        rw [len_list] at h1
        match e : x.cps.toList, h1 with
        | [c], _ => exact ⟨c, rfl⟩
      obtain ⟨c, hc⟩ := this
      have := in_abc hc
      simp [F_is_name, runDef_ap, c_is_name, st0, bnd_ap, isiG, isiOF, tyN, h1, this, isNm, hc]
    · have : isNm (.str x) = false := by
        unfold isNm
        rw [len_list] at h1
        match e : x.cps.toList, h1 with
        | [], _ => simp [e]
        | [c], h1 => simp at h1
        | _ :: _ :: _, _ => simp [e]
      rw [this]
      have h1' : ¬ (x.length : Int) = 1 := by omega
      simp [F_is_name, runDef_ap, c_is_name, st0, bnd_ap, isiG, isiOF, tyN, hx, h1']
  | ty n => cases h
  | cls n => cases h
  | ins _ _ _ => cases h
  | dix _ _ => cases h
  | kn _ => cases h
  | lam _ _ _ _ _ => cases h
  | exc _ _ _ => cases h
  | _ => simp [F_is_name, runDef_ap, c_is_name, st0, bnd_ap, isiG, isiOF, tyN, isNm]
def bd : Option Int → D
  | none => .non
  | some i => .int i
def inB' (lo hi : Option Int) : D → Bool
  | .int i => lo.all (fun l => decide (l ≤ i)) && hi.all (fun h => decide (i ≤ h))
  | _ => false
theorem is_integer_ok (d : D) (lo hi : Option Int) (h : pk d = true) : F_is_integer [d, bd lo, bd hi] = some (.ok (.dat (.bl (inB' lo hi d)))) := by
  cases d with
  | int i =>
    cases lo with
    | none => cases hi <;> simp [F_is_integer, runDef_ap, c_is_integer, st0, bnd_ap, isiG, isiOF, tyN, isN, bd, inB']
    | some l => by_cases hl : l ≤ i <;> cases hi <;> simp [F_is_integer, runDef_ap, c_is_integer, st0, bnd_ap, isiG, isiOF, tyN, isN, bd, inB', hl]
  | ty n => cases h
  | cls n => cases h
  | ins _ _ _ => cases h
  | dix _ _ => cases h
  | kn _ => cases h
  | lam _ _ _ _ _ => cases h
  | exc _ _ _ => cases h
  | _ => simp [F_is_integer, runDef_ap, c_is_integer, st0, bnd_ap, isiG, isiOF, tyN, isN, inB']
def pk2 : D → Bool
  | .tup [a, b] => pk a && pk b
  | d => pk d
def bellB : D → Bool
  | .tup [a, b] => isNm a && inB' (some 1) (some 30) b
  | _ => false
theorem is_bell_ok (d : D) (h : pk2 d = true) : F_is_bell [d] = some (.ok (.dat (.bl (bellB d)))) := by
  cases d with
  | tup ds =>
    match ds, h with
    | [], h => simp [F_is_bell, runDef_ap, c_is_bell, st0, bnd_ap, isiG, isiOF, tyN, bellB]
    | [a], h => simp [F_is_bell, runDef_ap, c_is_bell, st0, bnd_ap, isiG, isiOF, tyN, bellB]
    | [a, b], h =>
      obtain ⟨h1, h2⟩ := Bool.and_eq_true_iff.mp (show (pk a && pk b) = true from h)
      have e1 := is_name_ok a h1
      have e2 := is_integer_ok b (some 1) (some 30) h2
      simp only [bd] at e2
      cases hn : isNm a <;> simp [F_is_bell, runDef_ap, c_is_bell, st0, bnd_ap, isiG, isiOF, tyN, bellB, e1, e2, hn]
    | a :: b :: c :: r, h =>
      have : ¬ ((r.length : Int) + 1 + 1 + 1 = 2) := by omega
      simp [F_is_bell, runDef_ap, c_is_bell, st0, bnd_ap, isiG, isiOF, tyN, bellB, this]
  | str x => simp [F_is_bell, runDef_ap, c_is_bell, st0, bnd_ap, isiG, isiOF, tyN, bellB]
  | ty n => cases h
  | cls n => cases h
  | ins _ _ _ => cases h
  | dix _ _ => cases h
  | kn _ => cases h
  | lam _ _ _ _ _ => cases h
  | exc _ _ _ => cases h
  | _ => simp [F_is_bell, runDef_ap, c_is_bell, st0, bnd_ap, isiG, isiOF, tyN, bellB]
def first : D → List Nat
  | .tup (a :: _) => codes a
  | _ => []
def flt (before : List Nat) (k : Nat) : List D → Option Nat
  | [] => none
  | d :: ds => if bellB d && decide (before < first d) then flt (first d) (k + 1) ds else some k
def outF : Option Nat → List D
  | none => []
  | some k => [.int k]
def faultsD : D → List D
  | .tup ds => if 1 ≤ ds.length ∧ ds.length ≤ 5 then outF (flt [] 0 ds) else [.non]
  | _ => [.non]
theorem isNm_str {a : D} (h : isNm a = true) : ∃ x c, a = .str x ∧ x.cps.toList = [c] ∧ 97 ≤ c ∧ c ≤ 122 := by
  cases a with
  | str x =>
    simp only [isNm] at h
    split at h
    · rename_i c e
      exact ⟨x, c, rfl, e, of_decide_eq_true h⟩
    · cases h
  | _ => simp [isNm] at h
theorem bellB_is {d : D} (h : bellB d = true) : ∃ x c i, d = .tup [.str x, .int i] ∧ x.cps.toList = [c] ∧ 97 ≤ c ∧ c ≤ 122 ∧ 1 ≤ i ∧ i ≤ 30 := by
  cases d with
  | tup ds =>
    match ds, h with
    | [a, b], h =>
      obtain ⟨h1, h2⟩ := Bool.and_eq_true_iff.mp (show (isNm a && inB' (some 1) (some 30) b) = true from h)
      obtain ⟨x, c, rfl, hc, c1, c2⟩ := isNm_str h1
      cases b with
      | int i =>
        simp [inB'] at h2
        exact ⟨x, c, i, rfl, hc, c1, c2, h2.1, h2.2⟩
      | _ => simp [inB'] at h2
  | _ => simp [bellB] at h
theorem leD_str (x y : Str) : leD (.str x) (.str y) = some (.dat (.bl (!decide (y.cps.toList < x.cps.toList)))) := rfl
noncomputable abbrev tfB : M Fl := (sSeq (sIf (sOrT (sNotT (sB (sCallF (argN 1 F_is_bell) (sCons (cap (sVar 3)) sNil)))) (sB (sBin leD (sBin ixD (sVar 3) (sK (.int 0))) (sVar 1))))
 (sRet (sLst (sCons (cap (sVar 2)) sNil)))
 sSkip)
 (sSet 1 (sBin ixD (sVar 3) (sK (.int 0)))))
theorem tf_loop : ∀ (ds : List D) (k : Nat) (d : D) (b : Str) (x y : Sl), (x = .un ∨ ∃ d, x = .dat d) → (y = .un ∨ ∃ d, y = .dat d) → (∀ e ∈ ds, pk2 e = true) →
    (flt b.cps.toList k ds = none ∧ ∃ Γ, loopF (gTupD 2 (gMore (gSet 2) (gMore (gSet 3) gNone))) tfB ((ds.zipIdx k).map fun p => .tup [.int (p.2 : Nat), p.1]) [.dat d, .dat (.str b), x, y] = some (.ok .nx, Γ)) ∨
    ∃ j, flt b.cps.toList k ds = some j ∧ ∃ Γ, loopF (gTupD 2 (gMore (gSet 2) (gMore (gSet 3) gNone))) tfB ((ds.zipIdx k).map fun p => .tup [.int (p.2 : Nat), p.1]) [.dat d, .dat (.str b), x, y] = some (.ok (.rt (.own (.lst [.int j]))), Γ)
  | [], k, d, b, x, y, hx, hy, hp => .inl ⟨rfl, _, rfl⟩
  | e :: ds, k, d, b, x, y, hx, hy, hp => by
    have he := is_bell_ok e (hp e (by simp))
    rw [List.zipIdx_cons, List.map_cons, loopF_cons]
    by_cases hb : bellB e = true
    · obtain ⟨z, c, i, rfl, hc, c1, c2, i1, i2⟩ := bellB_is hb
      by_cases hl : b.cps.toList < z.cps.toList
      · have ih := tf_loop ds (k + 1) d z (.dat (.int k)) (.dat (.tup [.str z, .int i])) (.inr ⟨_, rfl⟩) (.inr ⟨_, rfl⟩) fun e he => hp e (by simp [he])
        have e1 : flt b.cps.toList k (.tup [.str z, .int i] :: ds) = flt z.cps.toList (k + 1) ds := by
          show (if _ then _ else _) = _
          rw [hb, if_pos (by simp [first, codes, hl])]
          rfl
        rw [e1]
        simpa [bnd_ap, he, hb, leD_str, hl] using ih
      · have e1 : flt b.cps.toList k (.tup [.str z, .int i] :: ds) = some k := by
          show (if _ then _ else _) = _
          rw [if_neg (by simp [first, codes, hl])]
        refine .inr ⟨k, e1, ?_⟩
        simp [bnd_ap, he, hb, leD_str, hl, mkLst_ok]
    · have e1 : flt b.cps.toList k (e :: ds) = some k := by
        show (if _ then _ else _) = _
        rw [if_neg (by simp [hb])]
      refine .inr ⟨k, e1, ?_⟩
      simp only [Bool.not_eq_true] at hb
      simp [bnd_ap, he, hb, mkLst_ok]
def pkT : D → Bool
  | .tup ds => ds.all pk2
  | d => pk d
theorem pkT_not {d : D} (h : pkT d = true) (hn : ∀ ds, d ≠ .tup ds) : F_tower_faults [d] = some (.ok (.own (.lst [.non]))) ∧ faultsD d = [.non] := by
  cases d with
  | tup ds => exact absurd rfl (hn ds)
  | ty n => cases h
  | cls n => cases h
  | ins _ _ _ => cases h
  | dix _ _ => cases h
  | kn _ => cases h
  | lam _ _ _ _ _ => cases h
  | exc _ _ _ => cases h
  | _ => exact ⟨by simp [F_tower_faults, runDef_ap, c_tower_faults, st0, bnd_ap, isiG, isiOF, tyN, mkLst_ok], rfl⟩
theorem enumA_tup (ds : List D) : enumA [.tup ds] = some ((ds.zipIdx 0).map fun p => .tup [.int (p.2 : Nat), p.1]) := rfl
theorem faults_ok {d : D} (h : pkT d = true) : F_tower_faults [d] = some (.ok (.own (.lst (faultsD d)))) := by
  by_cases hn : ∀ ds, d ≠ .tup ds
  · rw [(pkT_not h hn).2]; exact (pkT_not h hn).1
  · obtain ⟨ds, hd⟩ := Classical.not_forall.mp hn
    have hd : d = .tup ds := Classical.not_not.mp hd
    subst hd
    have hp : ∀ e ∈ ds, pk2 e = true := List.all_eq_true.mp h
    by_cases h1 : 1 ≤ ds.length
    · by_cases h5 : ds.length ≤ 5
      · have e1 : faultsD (.tup ds) = outF (flt [] 0 ds) := if_pos ⟨h1, h5⟩
        rw [e1]
        have hi1 : (1 : Int) ≤ (ds.length : Int) := by omega
        have hi5 : (ds.length : Int) ≤ 5 := by omega
        have empty : ("" : Str).cps.toList = [] := by decide +kernel
        have key := tf_loop ds 0 (.tup ds) "" .un .un (.inl rfl) (.inl rfl) hp
        rw [empty] at key
        rcases key with ⟨e2, Γ, e3⟩ | ⟨j, e2, Γ, e3⟩
        · rw [e2]
          simp [F_tower_faults, runDef_ap, c_tower_faults, st0, bnd_ap, isiG, isiOF, tyN, hi1, hi5, enumA_tup]
          rw [e3]
          rfl
        · rw [e2]
          simp [F_tower_faults, runDef_ap, c_tower_faults, st0, bnd_ap, isiG, isiOF, tyN, hi1, hi5, enumA_tup]
          rw [e3]
          rfl
      · have e1 : faultsD (.tup ds) = [.non] := if_neg (by omega)
        have hi1 : (1 : Int) ≤ (ds.length : Int) := by omega
        have hi5 : ¬ (ds.length : Int) ≤ 5 := by omega
        simp [F_tower_faults, runDef_ap, c_tower_faults, st0, bnd_ap, isiG, isiOF, tyN, hi1, hi5, e1, mkLst_ok]
    · have e1 : faultsD (.tup ds) = [.non] := if_neg (by omega)
      have hi1 : ¬ (1 : Int) ≤ (ds.length : Int) := by omega
      simp [F_tower_faults, runDef_ap, c_tower_faults, st0, bnd_ap, isiG, isiOF, tyN, hi1, e1, mkLst_ok]
end Law
namespace Law
open PySem DL G
theorem gcd_step (a b : Nat) : Nat.gcd a b = Nat.gcd b (a % b) := by
  rw [Nat.gcd_comm a b, Nat.gcd_rec, Nat.gcd_comm]
theorem gcd_cm : ∀ (b a : Nat) (x y z : Sl), sWhile (sB (sBin gtD (sVar 4) (sK (.int 0)))) (sPar [3, 4] (rCons (sVar 4) (rCons (sBin modD (sVar 3) (sVar 4)) rNil))) [x, y, z, .dat (.int a), .dat (.int b)] = some (.ok .nx, [x, y, z, .dat (.int (Nat.gcd a b)), .dat (.int 0)]) := by
  intro b
  induction b using Nat.strongRecOn with
  | _ b ih =>
    intro a x y z
    by_cases hb : b = 0
    · subst hb
      rw [Nat.gcd_zero_right]
      exact sWhile_stop (by simp [bnd_ap])
    · have h0 : 0 < b := by omega
      rw [gcd_step, ← ih (a % b) (Nat.mod_lt _ h0) b x y z]
      exact sWhile_step (Γ1 := [x, y, z, .dat (.int a), .dat (.int b)]) (f := .nx) (by simp [bnd_ap, h0]) (by simp [bnd_ap, h0]) (.inl rfl)
def lcmL (f : Nat) (ps : List Nat) : Nat := ps.foldl (fun f p => f / Nat.gcd f p * p) f
theorem lcmL_cons (f p : Nat) (ps : List Nat) : lcmL f (p :: ps) = lcmL (f / Nat.gcd f p * p) ps := by
  unfold lcmL
  rw [List.foldl_cons]
theorem lcm_pos {f p : Nat} (h1 : 0 < f) (h2 : 0 < p) : 0 < f / Nat.gcd f p * p := by
  have := Nat.div_pos (Nat.le_of_dvd h1 (Nat.gcd_dvd_left f p)) (Nat.gcd_pos_of_pos_left p h1)
  exact Nat.mul_pos this h2
def natI (n : Nat) : D := .int n
theorem cm_loop : ∀ (ps : List Nat) (f : Nat) (x y z w : Sl), 0 < f → (∀ p ∈ ps, 0 < p ∧ p ≤ 1000) → ∃ y' z' w', loopF (gSet 2) (sSeq (sPar [3, 4] (rCons (sVar 1) (rCons (sVar 2) rNil)))
 (sSeq (sWhile (sB (sBin gtD (sVar 4) (sK (.int 0))))
 (sPar [3, 4] (rCons (sVar 4) (rCons (sBin modD (sVar 3) (sVar 4)) rNil))))
 (sSet 1 (sBin mulD (sBin divD (sVar 1) (sVar 3)) (sVar 2))))) (ps.map natI) [x, .dat (.int f), y, z, w] = some (.ok .nx, [x, .dat (.int (lcmL f ps)), y', z', w'])
  | [], f, x, y, z, w, hf, hp => ⟨y, z, w, rfl⟩
  | p :: ps, f, x, y, z, w, hf, hp => by
    obtain ⟨p0, p1⟩ := hp p (by simp)
    have g0 : 0 < Nat.gcd f p := Nat.gcd_pos_of_pos_left p hf
    have g1 : Nat.gcd f p ≤ p := Nat.le_of_dvd p0 (Nat.gcd_dvd_right f p)
    have g0' : (0 : Int) < ((Nat.gcd f p : Nat) : Int) := by omega
    have g1' : ((Nat.gcd f p : Nat) : Int) < 18446744073709551616 := by omega
    have s1 : (-18446744073709551616 : Int) < (p : Int) := by omega
    have s2 : (p : Int) < 18446744073709551616 := by omega
    have key := gcd_cm p f x (.dat (.int f)) (.dat (.int p))
    obtain ⟨y', z', w', ih⟩ := cm_loop ps (f / Nat.gcd f p * p) x (.dat (.int p)) (.dat (.int (Nat.gcd f p))) (.dat (.int 0)) (lcm_pos hf p0) fun q hq => hp q (by simp [hq])
    refine ⟨y', z', w', ?_⟩
    rw [lcmL_cons, ← ih, List.map_cons, loopF_cons]
    generalize Nat.gcd f p = gg at *
    simp [bnd_ap, natI, key, g0, g1', s1, s2]
theorem common_ok {ps : List Nat} (hp : ∀ p ∈ ps, 0 < p ∧ p ≤ 1000) : F_common_multiple [.tup (ps.map natI)] = some (.ok (.dat (.int (lcmL 1 ps)))) := by
  obtain ⟨y', z', w', e⟩ := cm_loop ps 1 (.dat (.tup (ps.map natI))) .un .un .un (by decide) hp
  simp [F_common_multiple, runDef_ap, c_common_multiple, st0, bnd_ap]
  rw [show (1 : Int) = ((1 : Nat) : Int) from rfl, e]
  simp [bnd_ap]
end Law
namespace Law
open PySem DL G
def fstD : D → D
  | .tup (a :: _) => a
  | d => d
def sndD : D → D
  | .tup (_ :: b :: _) => b
  | d => d
def perN (l : List (Nat × Int)) : List Nat := l.map fun q => q.2.toNat
def bellsD (l : List (Nat × Int)) : D := .tup (l.map bellD)
def namesS (l : List (Nat × Int)) : Str := ⟨(l.map (·.1)).toArray⟩
def persD (l : List (Nat × Int)) : List D := (perN l).map natI
def towerD (l : List (Nat × Int)) : D := .ins k_Tower ["own_bells", "own_names", "own_periods", "own_round"] [bellsD l, .str (namesS l), .tup (persD l), .int (lcmL 1 (perN l))]
def nmsD (l : List (Nat × Int)) : List D := (l.map (·.1)).map L1
theorem fst_bells (l : List (Nat × Int)) : (l.map bellD).map fstD = nmsD l := by unfold nmsD; rw [List.map_map, List.map_map]; rfl
theorem join_nms {l : List (Nat × Int)} (h : l.length ≤ 1000) : joinF (.str "") (.lst (nmsD l)) = some (.dat (.str (namesS l))) := joinF_L1 (l.map fun q : Nat × Int => q.1) (by rw [List.length_map]; exact h)
@[simp] theorem seqI_bells (l : List (Nat × Int)) : seqI (bellsD l) = some (l.map bellD) := rfl
theorem snd_bells {l : List (Nat × Int)} (h : ∀ q ∈ l, 1 ≤ q.2) : (l.map bellD).map sndD = persD l := by
  unfold persD perN
  rw [List.map_map, List.map_map]
  refine List.map_congr_left fun q hq => ?_
  have := h q hq
  show D.int q.2 = D.int ((q.2.toNat : Nat) : Int)
  rw [Int.toNat_of_nonneg (by omega)]
theorem comp1 {l : List (Nat × Int)} (a b : Nat) (c : M Rf) (f : D → D) (Γ0 : List Sl) (hl : l.length ≤ 1000)
    (h : ∀ q ∈ l, ∃ Γa Γc, gTupD 2 (gMore (gSet a) (gMore (gSet b) gNone)) (bellD q) Γ0 = some (.ok (), Γa) ∧ cap c Γa = some (.ok (f (bellD q)), Γc) ∧ wipeG Γc [a, b] = Γ0) :
    loopL (gTupD 2 (gMore (gSet a) (gMore (gSet b) gNone))) (DL.ret true) (cap c) [a, b] (l.map bellD) [] Γ0 = some (.ok ((l.map bellD).map f), Γ0) :=
  loopL_map _ (fun d hd => by
    obtain ⟨q, hq, rfl⟩ := List.mem_map.mp hd
    exact h q hq) (by rw [List.length_map]; omega)
structure BellsT (l : List (Nat × Int)) : Prop where
  lo : 1 ≤ l.length
  hi : l.length ≤ 5
  asc : (l.map (·.1)).Pairwise (· < ·)
  abc : ∀ q ∈ l, 97 ≤ q.1 ∧ q.1 ≤ 122
  per : ∀ q ∈ l, 1 ≤ q.2 ∧ q.2 ≤ 30
theorem Bells.t {lo hi : Nat} {per : Int} {l : List (Nat × Int)} (b : Bells lo hi per l) (h1 : 1 ≤ lo) (h2 : hi ≤ 5) (h3 : per ≤ 30) : BellsT l :=
  ⟨Nat.le_trans h1 b.lo, Nat.le_trans b.hi h2, b.asc, b.abc, fun q hq => ⟨(b.per q hq).1, Int.le_trans (b.per q hq).2 h3⟩⟩
theorem per_pos {l : List (Nat × Int)} (b : BellsT l) : ∀ p ∈ perN l, 0 < p ∧ p ≤ 1000 := fun p hp => by
  obtain ⟨q, hq, rfl⟩ := List.mem_map.mp hp
  have := b.per q hq
  show 0 < q.2.toNat ∧ q.2.toNat ≤ 1000
  omega
theorem flt_some : ∀ {l : List (Nat × Int)} {b : List Nat} {k : Nat}, (∀ q ∈ l, 97 ≤ q.1 ∧ q.1 ≤ 122) → (∀ q ∈ l, 1 ≤ q.2 ∧ q.2 ≤ 30) → (l.map (·.1)).Pairwise (· < ·) → (∀ q ∈ l, b < [q.1]) → flt b k (l.map bellD) = none
  | [], b, k, _, _, _, _ => rfl
  | q :: l, b, k, h1, h2, h3, h4 => by
    have hb : bellB (bellD q) = true := by
      have a1 := h1 q (by simp)
      have a2 := h2 q (by simp)
      show (decide (97 ≤ q.1 ∧ q.1 ≤ 122) && (decide (1 ≤ q.2) && decide (q.2 ≤ 30))) = true
      rw [decide_eq_true a1, decide_eq_true a2.1, decide_eq_true a2.2]; rfl
    have hf : first (bellD q) = [q.1] := rfl
    rw [List.map_cons, List.pairwise_cons] at h3
    rw [List.map_cons]
    show (if _ then _ else _) = _
    rw [hb, hf, if_pos (by rw [Bool.true_and]; exact decide_eq_true (h4 q (by simp)))]
    refine flt_some (fun x hx => h1 x (by simp [hx])) (fun x hx => h2 x (by simp [hx])) h3.2 fun x hx => List.Lex.rel ?_
    exact h3.1 _ (List.mem_map.mpr ⟨x, hx, rfl⟩)
theorem faults_bells {l : List (Nat × Int)} (b : BellsT l) : faultsD (bellsD l) = [] := by
  show (if 1 ≤ (l.map bellD).length ∧ (l.map bellD).length ≤ 5 then outF (flt [] 0 (l.map bellD)) else [.non]) = _
  rw [List.length_map, if_pos ⟨b.lo, b.hi⟩, flt_some b.abc b.per b.asc fun q _ => List.Lex.nil]
  rfl
theorem pkT_bells (l : List (Nat × Int)) : pkT (bellsD l) = true := by
  show (l.map bellD).all pk2 = true
  refine List.all_eq_true.mpr fun d hd => ?_
  obtain ⟨q, _, rfl⟩ := List.mem_map.mp hd
  rfl
theorem init_ok {l : List (Nat × Int)} (b : BellsT l) : F_Tower___init (.ins k_Tower [] []) [bellsD l] = some (.ok (.dat .non), towerD l) := by
  have e1 := faults_ok (pkT_bells l)
  rw [faults_bells b] at e1
  have e2 : F_common_multiple [.tup (persD l)] = _ := common_ok (per_pos b)
  have len : l.length ≤ 1000 := by have := b.hi; omega
  have e3 := join_nms len
  have s1 := fst_bells l
  have s2 := snd_bells (l := l) fun q hq => (b.per q hq).1
  have c1 := fun d => comp1 (l := l) 3 4 (sVar 3) fstD [.own d, .dat (bellsD l), .un, .un, .un] len fun q hq => ⟨[.own d, .dat (bellsD l), .un, .dat (L1 q.1), .dat (.int q.2)], _, rfl, rfl, rfl⟩
  have c2 := fun d => comp1 (l := l) 3 4 (sVar 4) sndD [.own d, .dat (bellsD l), .un, .un, .un] len fun q hq => ⟨[.own d, .dat (bellsD l), .un, .dat (L1 q.1), .dat (.int q.2)], _, rfl, rfl, rfl⟩
  have hb : bellsD l = .tup (l.map bellD) := rfl
  simp only [s1, s2] at c1 c2
  simp [F_Tower___init, runDefM_ap, c_Tower___init, st0, bnd_ap, e1, c1, c2, e2, e3, towerD]
end Law
namespace Law
open PySem DL G
theorem log_small {i : Int} (h0 : 0 ≤ i) (h : i < 10000000000000000) : i.natAbs.log2 < 1920 := by
  by_cases z : i.natAbs = 0
  · rw [z]; decide
  · rw [Nat.log2_lt z]
    have : (10000000000000000 : Nat) < 2 ^ 1920 := by
      have : (2 : Nat) ^ 60 ≤ 2 ^ 1920 := Nat.pow_le_pow_right (by decide) (by decide)
      have h60 : (2 : Nat) ^ 60 = 1152921504606846976 := by decide
      omega
    omega
theorem fine_int {i : Int} (h0 : 0 ≤ i) (h : i < 10000000000000000) : fine (.int i) = true := decide_eq_true (log_small h0 h)
theorem fineL_all : ∀ {ds : List D}, (∀ d ∈ ds, fine d = true) → fineL ds = true
  | [], _ => rfl
  | d :: ds, h => by
    show (fine d && fineL ds) = true
    rw [h d (by simp), fineL_all fun e he => h e (by simp [he])]; rfl
theorem wtL_le : ∀ {ds : List D} {n : Nat}, (∀ d ∈ ds, wt d ≤ n) → wtL ds ≤ ds.length * (n + 2)
  | [], n, _ => Nat.zero_le _
  | d :: ds, n, h => by
    have h1 := h d (by simp)
    have h2 := wtL_le (ds := ds) (n := n) fun e he => h e (by simp [he])
    show wt d + 2 + wtL ds ≤ (ds.length + 1) * (n + 2)
    rw [Nat.succ_mul]
    omega
end Law
namespace Law
open PySem DL G
def RowP : List Nat → List Nat → Prop
  | [], [] => True
  | p :: ps, r :: rs => r < p ∧ RowP ps rs
  | _, _ => False
theorem RowP.len : ∀ {ps rs : List Nat}, RowP ps rs → rs.length = ps.length
  | [], [], _ => rfl
  | p :: ps, r :: rs, h => by rw [List.length_cons, List.length_cons, RowP.len h.2]
def rowD (rs : List Nat) : D := .tup (rs.map natI)
theorem nat_int {i : Int} (h : 0 ≤ i) : D.int i = natI i.toNat := by
  show D.int i = D.int ((i.toNat : Nat) : Int)
  rw [Int.toNat_of_nonneg h]
noncomputable abbrev rwC : M Rf := sCallM (argM 2 F_law_next) (sVar 0) (sCons (cap (sVar 3)) sNil)
theorem row_loop : ∀ (l : List (Nat × Int)) (acc : List D) (s b : D) (m : Nat), Src m s → m + l.length < 100000000000 → acc.length + l.length ≤ 1000 → (∀ q ∈ l, 1 ≤ q.2 ∧ q.2 ≤ 30) → ∃ s' rs, RowP (perN l) rs ∧ Src (m + l.length) s' ∧
    loopL (gTupD 2 (gMore (gSet 2) (gMore (gSet 3) gNone))) (DL.ret true) (cap rwC) [2, 3] (l.map bellD) acc [.own s, .dat b, .un, .un] = some (.ok (acc ++ rs.map natI), [.own s', .dat b, .un, .un])
  | [], acc, s, b, m, hs, hm, ha, hp => ⟨s, [], trivial, hs, by simp [loopL]⟩
  | q :: l, acc, s, b, m, hs, hm, ha, hp => by
    simp only [List.length_cons] at hm ha
    have hq := hp q (by simp)
    obtain ⟨r, s1, e1, r0, r1, hs1⟩ := next_ok (n := q.2) hs (by omega) (by omega) (by omega)
    obtain ⟨s', rs, h1, h2, h3⟩ := row_loop l (acc ++ [natI r.toNat]) s1 b (m + 1) hs1 (by omega) (by rw [List.length_append, List.length_singleton]; omega) fun x hx => hp x (by simp [hx])
    refine ⟨s', r.toNat :: rs, ⟨by show r.toNat < q.2.toNat; omega, h1⟩, by rw [List.length_cons, show m + (l.length + 1) = m + 1 + l.length by omega]; exact h2, ?_⟩
    have e : acc ++ (r.toNat :: rs).map natI = acc ++ [natI r.toNat] ++ rs.map natI := by simp
    have hacc : acc.length < 16777216 := by omega
    rw [nat_int r0] at e1
    rw [e, ← h3]
    simp [loopL, bnd_ap, bellD, e1, hacc]
theorem row_ok {l : List (Nat × Int)} (b : BellsT l) {s : D} {m : Nat} (hs : Src m s) (hm : m < 1000000000) : ∃ s' rs, RowP (perN l) rs ∧ Src (m + 5) s' ∧ F_law_row s [bellsD l] = some (.ok (.dat (rowD rs)), s') := by
  have hl := b.hi
  obtain ⟨s', rs, h1, h2, h3⟩ := row_loop l [] s (bellsD l) m hs (by omega) (by simp; omega) b.per
  obtain ⟨x, y, z, rfl, z1, z2⟩ := h2
  refine ⟨_, rs, h1, ⟨x, y, z, rfl, z1, by omega⟩, ?_⟩
  have hb : seqI (bellsD l) = some (l.map bellD) := rfl
  simp [F_law_row, runDefM_ap, c_law_row, st0, bnd_ap]
  rw [h3]
  simp [rowD]
theorem isIns_tower (l : List (Nat × Int)) : isInsB k_Tower "" (towerD l) = true := by
  show (decide (k_Tower = k_Tower) && !(["own_bells", "own_names", "own_periods", "own_round"] : List Str).contains "") = true
  decide +kernel
theorem len_pers (l : List (Nat × Int)) : (perN l).length = l.length := List.length_map _
end Law
namespace Law
open PySem DL G
theorem sm62_ok {i : Int} (h0 : 0 ≤ i) (h1 : i ≤ 1000000) : sm62 i = true := by
  show (decide _ && decide _) = true
  rw [decide_eq_true (by omega), decide_eq_true (by omega)]; rfl
theorem range1_int {i : Int} (h0 : 0 ≤ i) (h1 : i ≤ 1000000) : range1 [.int i] = some (rgD 0 i.toNat) := by
  show (if sm62 i then _ else _) = _
  rw [if_pos (sm62_ok h0 h1)]
theorem range2_int {i j : Int} (h0 : 0 ≤ i) (h1 : i ≤ 1000000) (g0 : 0 ≤ j) (g1 : j ≤ 1000000) : range2 [.int i, .int j] = some (rgD i (j - i).toNat) := by
  show (if sm62 i && sm62 j then _ else _) = _
  rw [sm62_ok h0 h1, sm62_ok g0 g1, if_pos (by rfl)]
theorem rgD_zero (n : Nat) : rgD 0 n = (List.range n).map natI := List.map_congr_left fun i _ => by rw [Int.zero_add]; rfl
theorem rgD_nat (a n : Nat) : rgD (a : Int) n = ((List.range n).map (a + ·)).map natI := by
  rw [List.map_map]
  exact List.map_congr_left fun k _ => by rw [← Int.natCast_add]; rfl
theorem range1_n {n : Nat} (h : n ≤ 1000000) : range1 [.int (n : Int)] = some ((List.range n).map natI) := by
  rw [range1_int (by omega) (by omega), Int.toNat_natCast, rgD_zero]
theorem range2_n {a b : Nat} (h : a ≤ 1000000) (h' : b ≤ 1000000) : range2 [.int (a : Int), .int (b : Int)] = some (((List.range (b - a)).map (a + ·)).map natI) := by
  rw [range2_int (by omega) (by omega) (by omega) (by omega), show ((b : Int) - (a : Int)).toNat = b - a by omega, rgD_nat]
def pairs (n : Nat) : List (Nat × Nat) := (List.range n).flatMap fun i => (List.range (n - (i + 1))).map fun k => (i, i + 1 + k)
def prD (p : Nat × Nat) : D := .tup [natI p.1, natI p.2]
theorem upto5 {n : Nat} (h : n ≤ 5) : n = 0 ∨ n = 1 ∨ n = 2 ∨ n = 3 ∨ n = 4 ∨ n = 5 := by omega
theorem pairs_len {n : Nat} (h : n ≤ 5) : (pairs n).length ≤ 10 := by
  rcases upto5 h with rfl | rfl | rfl | rfl | rfl | rfl <;> decide
end Law
namespace Law
open PySem DL G
def bitB (m : Nat) (k : Nat) : Bool := decide (Builtin.bitAnd ((m : Int) / 2 ^ k) 1 = 1)
def mem (n m : Nat) : List Nat := (List.range n).filter (bitB m)
theorem kE_pr (p q : Nat × Nat) : kE (prD p) (prD q) = decide (p = q) := by
  obtain ⟨a, b⟩ := p
  obtain ⟨c, d⟩ := q
  show (decide ((a : Int) = (c : Int)) && (decide ((b : Int) = (d : Int)) && true)) = _
  by_cases h1 : a = c <;> by_cases h2 : b = d <;> simp [h1, h2, Int.ofNat_inj]
theorem pw_pairs {n : Nat} (h : n ≤ 5) : ((pairs n).map prD).Pairwise fun a b => kE a b = false := by
  rw [List.pairwise_map]
  have : (pairs n).Pairwise fun a b => a ≠ b := by rcases upto5 h with rfl | rfl | rfl | rfl | rfl | rfl <;> decide
  exact this.imp fun {a b} z => by rw [kE_pr, decide_eq_false z]
def pwD (p : (Nat × Nat) × Int) : D := .tup [prD p.1, .int p.2]
def evV : D → D
  | .tup [_, .int w] => .bl (decide (w % 2 = 0))
  | d => d
theorem zip_pw : ∀ (ps : List (Nat × Nat)) (pl : List Int), zipD2 (ps.map prD) (pl.map .int) = (ps.zip pl).map pwD
  | [], _ => by simp [zipD2]
  | _ :: _, [] => by simp [zipD2]
  | p :: ps, w :: pl => by
    have ih := zip_pw ps pl
    unfold zipD2 at *
    rw [List.map_cons, List.map_cons, List.zipWith_cons_cons, ih, List.zip_cons_cons, List.map_cons]
    rfl
theorem zip_k {ps : List (Nat × Nat)} {pl : List Int} (h : pl.length = ps.length) : ((ps.zip pl).map pwD).map fstD = ps.map prD := by
  rw [List.map_map]
  have : fstD ∘ pwD = prD ∘ Prod.fst := rfl
  rw [this, ← List.map_map, List.map_fst_zip (by omega)]
theorem zip_v {ps : List (Nat × Nat)} {pl : List Int} (h : pl.length = ps.length) : ((ps.zip pl).map pwD).map evV = pl.map fun w => .bl (decide (w % 2 = 0)) := by
  rw [List.map_map]
  have : evV ∘ pwD = (fun w => D.bl (decide (w % 2 = 0))) ∘ Prod.snd := rfl
  rw [this, ← List.map_map, List.map_snd_zip (by omega)]
theorem ev_loop {n : Nat} {pl : List Int} (h5 : n ≤ 5) (hl : pl.length = (pairs n).length) (x0 x1 x2 x3 x4 x5 x6 x9 x10 x11 : Sl) : loopDc (gTupD 2 (gMore (gSet 7) (gMore (gSet 8) gNone))) (DL.ret true) (cap (sVar 7)) (cap (sBin eqD (sBin modD (sVar 8) (sK (.int 2))) (sK (.int 0)))) [7, 8] (zipD2 ((pairs n).map prD) (pl.map .int)) [] [] [x0, x1, x2, x3, x4, x5, x6, .un, .un, x9, x10, x11] =
    some (.ok ((pairs n).map prD, pl.map fun w => .bl (decide (w % 2 = 0))), [x0, x1, x2, x3, x4, x5, x6, .un, .un, x9, x10, x11]) := by
  have e := loopDc_new (g := gTupD 2 (gMore (gSet 7) (gMore (gSet 8) gNone))) (ck := cap (sVar 7)) (cv := cap (sBin eqD (sBin modD (sVar 8) (sK (.int 2))) (sK (.int 0)))) (vs := [7, 8]) (Γ0 := [x0, x1, x2, x3, x4, x5, x6, .un, .un, x9, x10, x11]) (fk := fstD) (fv := evV) (K := tupK) okPut_tup (((pairs n).zip pl).map pwD) [] [] (fun d hd => by
    obtain ⟨⟨p, w⟩, _, rfl⟩ := List.mem_map.mp hd
    exact ⟨[x0, x1, x2, x3, x4, x5, x6, .dat (prD p), .dat (.int w), x9, x10, x11], [x0, x1, x2, x3, x4, x5, x6, .dat (prD p), .dat (.int w), x9, x10, x11], [x0, x1, x2, x3, x4, x5, x6, .dat (prD p), .dat (.int w), x9, x10, x11], rfl, rfl, by simp [bnd_ap, evV, pwD], rfl⟩) (fun d hd => by
    obtain ⟨⟨p, w⟩, _, rfl⟩ := List.mem_map.mp hd
    rfl) rfl (by rw [List.nil_append, zip_k hl]; exact pw_pairs h5) (by
    have := pairs_len h5
    rw [List.length_map, List.length_zip, List.length_nil]; omega)
  rw [zip_pw, e, zip_k hl, zip_v hl]
  rfl
end Law
namespace Law
open PySem DL G
def nmD (cs : List Nat) : Str := ⟨cs.toArray⟩
end Law
namespace Law
open PySem DL G
theorem pr_names (l : List (Nat × Int)) : F_Tower_names [towerD l] = some (.ok (.dat (.str (nmD (l.map (·.1)))))) := by simp [F_Tower_names, runDef_ap, c_Tower_names, st0, bnd_ap, towerD, namesS, nmD]
end Law
namespace Law
end Law
namespace Law
open PySem DL G
def mkS (a : List Nat) : Str := ⟨a.toArray⟩
def sD (a : List Nat) : D := .str (mkS a)
theorem mkS_list (a : List Nat) : (mkS a).cps.toList = a := List.toList_toArray
theorem mkS_len (a : List Nat) : (mkS a).length = a.length := by rw [len_list, mkS_list]
theorem mkS_inj {a b : List Nat} (h : mkS a = mkS b) : a = b := by
  have := congrArg (fun s : Str => s.cps.toList) h
  rwa [mkS_list, mkS_list] at this
theorem mkS_eta (x : Str) : mkS x.cps.toList = x := by
  cases x with
  | mk a => show (⟨a.toList.toArray⟩ : Str) = _; rw [Array.toArray_toList]
theorem e_empty : D.str "" = sD [] := by
  show D.str (PySem.Str.ofString "") = _
  rw [show PySem.Str.ofString "" = (⟨#[]⟩ : Str) by decide +kernel]; rfl
theorem L1_is (c : Nat) : L1 c = sD [c] := rfl
theorem add_S (a b : List Nat) (h : a.length + b.length ≤ 1000) : addD (sD a) (sD b) = some (.dat (sD (a ++ b))) := by
  show (if (mkS a).length + (mkS b).length ≤ 16777216 then some (Rf.dat (.str (mkS a ++ mkS b))) else none) = _
  rw [mkS_len, mkS_len, if_pos (by omega)]
  congr 2
  show D.str (⟨a.toArray ++ b.toArray⟩ : Str) = D.str ⟨(a ++ b).toArray⟩
  congr 2
  simp
theorem eq_S (a b : List Nat) : eqD (sD a) (sD b) = some (.dat (.bl (decide (a = b)))) := by
  show some (Rf.dat (.bl (mkS a == mkS b))) = _
  congr 3
  by_cases h : a = b
  · subst h; simp
  · rw [decide_eq_false h]
    simp only [beq_eq_false_iff_ne, ne_eq]
    exact fun z => h (mkS_inj z)
theorem ne_S (a b : List Nat) : neD (sD a) (sD b) = some (.dat (.bl (!decide (a = b)))) := by
  show some (Rf.dat (.bl (!(mkS a == mkS b)))) = _
  congr 4
  by_cases h : a = b
  · subst h; simp
  · rw [decide_eq_false h]
    simp only [beq_eq_false_iff_ne, ne_eq]
    exact fun z => h (mkS_inj z)
theorem in_S (c : Nat) (a : List Nat) : inD (L1 c) (sD a) = some (.dat (.bl (decide (c ∈ a)))) := by
  show some (Rf.dat (.bl (decide (c ∈ (mkS a).cps.toList)))) = _
  rw [mkS_list]
theorem strD_S (a : List Nat) : strD (mkS a) = a.map L1 := by
  show ((mkS a).cps.toList.map fun c => D.str ⟨#[c]⟩) = _
  rw [mkS_list]; rfl
theorem seq_S (a : List Nat) (h : a.length ≤ 1000) : seqI (sD a) = some (a.map L1) := by
  show some (strD (mkS a)) = _
  rw [strD_S]
theorem len_S (a : List Nat) (h : a.length ≤ 1000) : lenF [sD a] = some (.dat (.int a.length)) := by
  show (if (mkS a).length ≤ 16777216 then some (Rf.dat (.int ((mkS a).length : Nat))) else none) = _
  rw [mkS_len, if_pos (by omega)]
theorem join_S (a : List Nat) (h : a.length ≤ 1000) : joinF (.str "") (.lst (a.map L1)) = some (.dat (sD a)) := joinF_L1 a h
end Law
namespace Law
open PySem DL G
def atL : List (Nat × Int) → List Nat → Nat → List Nat
  | q :: l, r :: rs, t => if t % q.2.toNat = r then q.1 :: atL l rs t else atL l rs t
  | _, _, _ => []
noncomputable abbrev atB : M Fl := (sSet 3 (sBin addD (sVar 3) (sIfE (sB (sBin eqD (sBin modD (sVar 2) (sVar 5)) (sVar 6))) (sVar 4) (sK (.str "")))))
def brD (p : (Nat × Int) × Nat) : D := .tup [bellD p.1, natI p.2]
theorem zip_br : ∀ (l : List (Nat × Int)) (rs : List Nat), zipD2 (l.map bellD) (rs.map natI) = (l.zip rs).map brD
  | [], _ => by simp [zipD2]
  | _ :: _, [] => by simp [zipD2]
  | p :: ps, w :: pl => by
    have ih := zip_br ps pl
    unfold zipD2 at *
    rw [List.map_cons, List.map_cons, List.zipWith_cons_cons, ih, List.zip_cons_cons, List.map_cons]
    rfl
theorem at_yes {t p r : Int} {N a b : D} (x0 x1 : Sl) (hp : 0 < p) (h : t % p = r) (ha : addD a N = some (.dat b)) : atB [x0, x1, .dat (.int t), .dat a, .dat N, .dat (.int p), .dat (.int r)] = some (.ok .nx, [x0, x1, .dat (.int t), .dat b, .dat N, .dat (.int p), .dat (.int r)]) := by
  simp [bnd_ap, hp, h, ha]
theorem at_no {t p r : Int} {N a b : D} (x0 x1 : Sl) (hp : 0 < p) (h : ¬ t % p = r) (ha : addD a (.str "") = some (.dat b)) : atB [x0, x1, .dat (.int t), .dat a, .dat N, .dat (.int p), .dat (.int r)] = some (.ok .nx, [x0, x1, .dat (.int t), .dat b, .dat N, .dat (.int p), .dat (.int r)]) := by
  simp [bnd_ap, hp, h, ha]
theorem at_loop (x0 x1 : Sl) (t : Nat) : ∀ (l : List (Nat × Int)) (rs acc : List Nat) (x4 x5 x6 : Sl), (∀ q ∈ l, 1 ≤ q.2 ∧ q.2 ≤ 30) → rs.length = l.length → acc.length + l.length ≤ 900 → ∃ y4 y5 y6,
    loopF (gTupD 2 (gMore (gTupD 2 (gMore (gSet 4) (gMore (gSet 5) gNone))) (gMore (gSet 6) gNone))) atB ((l.zip rs).map brD) [x0, x1, .dat (.int t), .dat (sD acc), x4, x5, x6] = some (.ok .nx, [x0, x1, .dat (.int t), .dat (sD (acc ++ atL l rs t)), y4, y5, y6])
  | [], rs, acc, x4, x5, x6, hp, hl, ha => ⟨x4, x5, x6, by simp [atL]⟩
  | q :: l, [], acc, x4, x5, x6, hp, hl, ha => by simp at hl
  | q :: l, r :: rs, acc, x4, x5, x6, hp, hl, ha => by
    have hq := hp q (by simp)
    simp only [List.length_cons] at hl ha
    have e2 : gTupD 2 (gMore (gTupD 2 (gMore (gSet 4) (gMore (gSet 5) gNone))) (gMore (gSet 6) gNone)) (brD (q, r)) [x0, x1, .dat (.int t), .dat (sD acc), x4, x5, x6] = some (.ok (), [x0, x1, .dat (.int t), .dat (sD acc), .dat (L1 q.1), .dat (.int q.2), .dat (natI r)]) := rfl
    by_cases h : t % q.2.toNat = r
    · obtain ⟨y4, y5, y6, ih⟩ := at_loop x0 x1 t l rs (acc ++ [q.1]) (.dat (L1 q.1)) (.dat (.int q.2)) (.dat (natI r)) (fun x hx => hp x (by simp [hx])) (by omega) (by rw [List.length_append, List.length_singleton]; omega)
      refine ⟨y4, y5, y6, ?_⟩
      have e : atL (q :: l) (r :: rs) t = q.1 :: atL l rs t := by show (if _ then _ else _) = _; rw [if_pos h]
      rw [e, show acc ++ q.1 :: atL l rs t = acc ++ [q.1] ++ atL l rs t by simp]
      have hm : (t : Int) % q.2 = (r : Int) := by
        have : q.2 = ((q.2.toNat : Nat) : Int) := by omega
        rw [this, ← Int.natCast_emod, h]
      exact loopF_nx e2 (at_yes x0 x1 (by omega) hm (add_S acc [q.1] (by simp; omega))) ih
    · obtain ⟨y4, y5, y6, ih⟩ := at_loop x0 x1 t l rs acc (.dat (L1 q.1)) (.dat (.int q.2)) (.dat (natI r)) (fun x hx => hp x (by simp [hx])) (by omega) (by omega)
      refine ⟨y4, y5, y6, ?_⟩
      have e : atL (q :: l) (r :: rs) t = atL l rs t := by show (if _ then _ else _) = _; rw [if_neg h]
      rw [e]
      have hm : ¬ (t : Int) % q.2 = (r : Int) := by
        have : q.2 = ((q.2.toNat : Nat) : Int) := by omega
        rw [this, ← Int.natCast_emod]
        omega
      have ha' := add_S acc [] (by simp; omega)
      rw [← e_empty, List.append_nil] at ha'
      exact loopF_nx e2 (at_no x0 x1 (by omega) hm ha') ih
theorem at_run {B R : D} {bs : List D} {t : Int} {v : D} {y4 y5 y6 : Sl} (hz : zipA2 [B, R] = some bs) (e : loopF (gTupD 2 (gMore (gTupD 2 (gMore (gSet 4) (gMore (gSet 5) gNone))) (gMore (gSet 6) gNone))) atB bs [.dat B, .dat R, .dat (.int t), .dat (.str ""), .un, .un, .un] = some (.ok .nx, [.dat B, .dat R, .dat (.int t), .dat v, y4, y5, y6])) : F_law_at [B, R, .int t] = some (.ok (.dat v)) := by
  refine runDef_to (f := .rt (.dat v)) (Γ := [.dat B, .dat R, .dat (.int t), .un, .un, .un, .un]) (Γ' := [.dat B, .dat R, .dat (.int t), .dat v, y4, y5, y6]) rfl ?_ rfl
  refine sSeq_to (Γ' := [.dat B, .dat R, .dat (.int t), .dat (.str ""), .un, .un, .un]) (by simp [bnd_ap]) ?_
  exact sSeq_to (sFor_to (Γ1 := [.dat B, .dat R, .dat (.int t), .dat (.str ""), .un, .un, .un]) (ds := bs) (sRng_to (ds := [B, R]) rfl hz) e) (by simp [bnd_ap])
theorem at_ok {l : List (Nat × Int)} (b : BellsT l) {rs : List Nat} (hl : rs.length = l.length) (t : Nat) : F_law_at [bellsD l, rowD rs, .int t] = some (.ok (.dat (sD (atL l rs t)))) := by
  have h5 := b.hi
  obtain ⟨y4, y5, y6, e⟩ := at_loop (.dat (bellsD l)) (.dat (rowD rs)) t l rs [] .un .un .un b.per hl (by simp; omega)
  rw [← e_empty, List.nil_append] at e
  exact at_run (by show some (zipD2 (l.map bellD) (rs.map natI)) = _; rw [zip_br]) e
end Law
namespace Law
def minN : List Nat → Nat
  | [] => 0
  | [a] => a
  | a :: b :: r => if a ≤ minN (b :: r) then a else minN (b :: r)
theorem minN_le : ∀ {τ : List Nat} {a : Nat}, a ∈ τ → minN τ ≤ a
  | [b], a, h => by
    rw [List.mem_singleton] at h
    subst h; exact Nat.le_refl _
  | b :: c :: r, a, h => by
    show (if b ≤ minN (c :: r) then b else minN (c :: r)) ≤ a
    rcases List.mem_cons.mp h with rfl | h
    · split <;> omega
    · have := minN_le h
      split <;> omega
theorem minN_mem : ∀ {τ : List Nat}, τ ≠ [] → minN τ ∈ τ
  | [], h => absurd rfl h
  | [b], _ => by simp [minN]
  | b :: c :: r, _ => by
    have := minN_mem (τ := c :: r) (by simp)
    show (if b ≤ minN (c :: r) then b else minN (c :: r)) ∈ _
    split
    · simp
    · exact List.mem_cons_of_mem _ this
def chN : List Nat → List Nat → Nat → List Nat
  | c :: cs, n :: ns, m => if n = m then c :: chN cs ns m else chN cs ns m
  | _, _, _ => []
def laterN : List Nat → List Nat → Nat → List Nat
  | n :: ns, p :: ps, m => (if n = m then n + p else n) :: laterN ns ps m
  | _, _, _ => []
theorem laterN_len : ∀ {τ ps : List Nat} (m : Nat), τ.length = ps.length → (laterN τ ps m).length = ps.length
  | [], [], m, _ => rfl
  | n :: ns, p :: ps, m, h => by
    show (laterN ns ps m).length + 1 = ps.length + 1
    rw [laterN_len m (by simpa using h)]
theorem laterN_at : ∀ {τ ps : List Nat} (m i : Nat), τ.length = ps.length → i < ps.length → (laterN τ ps m).getD i 0 = if τ.getD i 0 = m then τ.getD i 0 + ps.getD i 0 else τ.getD i 0
  | n :: ns, p :: ps, m, 0, h, hi => by simp [laterN]
  | n :: ns, p :: ps, m, i + 1, h, hi => by
    have := laterN_at (τ := ns) (ps := ps) m i (by simpa using h) (by simpa using hi)
    simpa [laterN] using this
  | [], [], m, i, h, hi => by simp at hi
theorem getD_mem {τ : List Nat} {i : Nat} (h : i < τ.length) : τ.getD i 0 ∈ τ := by
  simp [List.getD, h]
theorem mem_getD {τ : List Nat} {a : Nat} (h : a ∈ τ) : ∃ i, i < τ.length ∧ τ.getD i 0 = a := by
  obtain ⟨i, hi, rfl⟩ := List.mem_iff_getElem.mp h
  exact ⟨i, hi, by simp [List.getD, hi]⟩
section
variable (ps xs : List Nat)
def stN : Nat → List Nat
  | 0 => xs
  | k + 1 => laterN (stN k) ps (minN (stN k))
def tmN (k : Nat) : Nat := minN (stN ps xs k)
def stAt (k i : Nat) : Nat := (stN ps xs k).getD i 0
def cntN : Nat → Nat → Nat
  | 0, _ => 0
  | k + 1, i => if stAt ps xs k i = tmN ps xs k then cntN k i + 1 else cntN k i
end
structure Tw (ps xs : List Nat) : Prop where
  ne : ps ≠ []
  len : xs.length = ps.length
  lt : ∀ i, i < ps.length → xs.getD i 0 < ps.getD i 0
  le : ∀ i, i < ps.length → ps.getD i 0 ≤ 30
section
variable {ps xs : List Nat} (W : Tw ps xs)
include W
theorem st_len (k : Nat) : (stN ps xs k).length = ps.length := by
  induction k with
  | zero => exact W.len
  | succ k ih => exact laterN_len _ ih
theorem Tw.pos (i : Nat) (h : i < ps.length) : 0 < ps.getD i 0 := by have := W.lt i h; omega
theorem st_succ (k : Nat) {i : Nat} (h : i < ps.length) : stAt ps xs (k + 1) i = if stAt ps xs k i = tmN ps xs k then stAt ps xs k i + ps.getD i 0 else stAt ps xs k i :=
  laterN_at _ _ (st_len W k) h
theorem st_cnt (k : Nat) {i : Nat} (h : i < ps.length) : stAt ps xs k i = xs.getD i 0 + cntN ps xs k i * ps.getD i 0 := by
  induction k with
  | zero => simp [stAt, stN, cntN]
  | succ k ih =>
    rw [st_succ W k h]
    unfold cntN
    by_cases e : stAt ps xs k i = tmN ps xs k
    · rw [if_pos e, if_pos e, ih, Nat.succ_mul]; omega
    · rw [if_neg e, if_neg e, ih]
theorem tm_le (k : Nat) {i : Nat} (h : i < ps.length) : tmN ps xs k ≤ stAt ps xs k i := minN_le (getD_mem (by rw [st_len W k]; exact h))
theorem tm_ex (k : Nat) : ∃ i, i < ps.length ∧ stAt ps xs k i = tmN ps xs k := by
  have hne : stN ps xs k ≠ [] := by
    intro z
    have := st_len W k
    rw [z] at this
    exact W.ne (List.length_eq_zero_iff.mp this.symm)
  obtain ⟨i, h1, h2⟩ := mem_getD (minN_mem hne)
  exact ⟨i, by rw [st_len W k] at h1; exact h1, h2⟩
theorem tm_lt (k : Nat) : tmN ps xs k < tmN ps xs (k + 1) := by
  obtain ⟨i, h, e⟩ := tm_ex W (k + 1)
  rw [← e, st_succ W k h]
  have h1 := tm_le W k h
  have h2 := W.pos i h
  split <;> omega
theorem last_le (n : Nat) {j : Nat} (h : j < ps.length) : 0 < cntN ps xs (n + 1) j → xs.getD j 0 + (cntN ps xs (n + 1) j - 1) * ps.getD j 0 ≤ tmN ps xs n := by
  induction n with
  | zero =>
    unfold cntN
    by_cases e : stAt ps xs 0 j = tmN ps xs 0
    · rw [if_pos e]
      intro _
      have := st_cnt W 0 h
      simp only [cntN] at this ⊢
      simp only [Nat.zero_mul, Nat.zero_add, Nat.sub_self, Nat.add_zero] at this ⊢
      omega
    · rw [if_neg e]
      intro z
      simp [cntN] at z
  | succ n ih =>
    intro hc
    unfold cntN at hc ⊢
    by_cases e : stAt ps xs (n + 1) j = tmN ps xs (n + 1)
    · rw [if_pos e] at hc ⊢
      have := st_cnt W (n + 1) h
      rw [Nat.add_sub_cancel]
      omega
    · rw [if_neg e] at hc ⊢
      have := ih hc
      have := tm_lt W n
      omega
end
def Hits (ps xs : List Nat) (k i : Nat) : Prop := stAt ps xs k i = tmN ps xs k
end Law
namespace Law
open PySem DL G
theorem fine_abs {i : Int} (h : i.natAbs < 10000000000000000) : fine (.int i) = true := by
  have := log_small (i := (i.natAbs : Int)) (by omega) (by omega)
  rw [Int.natAbs_natCast] at this
  exact decide_eq_true this
theorem RowP.le : ∀ {ps rs : List Nat}, RowP ps rs → (∀ p ∈ ps, 0 < p ∧ p ≤ 1000) → ∀ r ∈ rs, r ≤ 1000
  | [], [], _, _, r, hr => by cases hr
  | p :: ps, x :: rs, h, hp, r, hr => by
    have h1 : x < p := h.1
    have h2 := hp p (by simp)
    rcases List.mem_cons.mp hr with rfl | hr
    · omega
    · exact RowP.le h.2 (fun q hq => hp q (by simp [hq])) r hr
end Law
namespace Law
open PySem DL G
theorem mem_chN : ∀ {cs τ : List Nat} {m c : Nat}, τ.length = cs.length → (c ∈ chN cs τ m ↔ ∃ i, cs[i]? = some c ∧ τ.getD i 0 = m)
  | [], [], m, c, _ => by simp [chN]
  | d :: cs, n :: τ, m, c, h => by
    have ih := mem_chN (cs := cs) (τ := τ) (m := m) (c := c) (by simpa using h)
    have key : (∃ i, (d :: cs)[i]? = some c ∧ (n :: τ).getD i 0 = m) ↔ (d = c ∧ n = m) ∨ ∃ i, cs[i]? = some c ∧ τ.getD i 0 = m := by
      constructor
      · rintro ⟨i, h1, h2⟩
        cases i with
        | zero => exact .inl ⟨by simpa using h1, by simpa using h2⟩
        | succ i => exact .inr ⟨i, by simpa using h1, by simpa using h2⟩
      · rintro (⟨h1, h2⟩ | ⟨i, h1, h2⟩)
        · exact ⟨0, by simp [h1], by simp [h2]⟩
        · exact ⟨i + 1, by simpa using h1, by simpa using h2⟩
    rw [key, ← ih]
    by_cases e : n = m
    · have e2 : chN (d :: cs) (n :: τ) m = d :: chN cs τ m := by show (if _ then _ else _) = _; rw [if_pos e]
      rw [e2, List.mem_cons]
      constructor
      · rintro (z | z)
        · exact .inl ⟨z.symm, e⟩
        · exact .inr z
      · rintro (⟨z, _⟩ | z)
        · exact .inl z.symm
        · exact .inr z
    · have e2 : chN (d :: cs) (n :: τ) m = chN cs τ m := by show (if _ then _ else _) = _; rw [if_neg e]
      rw [e2]
      constructor
      · exact .inr
      · rintro (⟨_, z⟩ | z)
        · exact absurd z e
        · exact z
def chime (cs ps xs : List Nat) (k : Nat) : List Nat := chN cs (stN ps xs k) (tmN ps xs k)
theorem hits_mem {cs ps xs : List Nat} (W : Tw ps xs) (hn : cs.Nodup) (hl : cs.length = ps.length) (k : Nat) {i : Nat} (hi : i < ps.length) : Hits ps xs k i ↔ cs[i]'(by omega) ∈ chime cs ps xs k := by
  unfold chime
  rw [mem_chN (by rw [st_len W k, hl])]
  constructor
  · intro h
    exact ⟨i, List.getElem?_eq_getElem _, h⟩
  · rintro ⟨j, h1, h2⟩
    have : i = j := (List.getElem?_inj (by omega) hn).mp (by rw [h1, List.getElem?_eq_getElem (by omega)])
    subst this
    exact h2
theorem atL_chN : ∀ {l : List (Nat × Int)} {rs τ : List Nat} {t m : Nat}, rs.length = l.length → τ.length = l.length → (∀ i, i < l.length → (t % (perN l).getD i 0 = rs.getD i 0 ↔ τ.getD i 0 = m)) → atL l rs t = chN (l.map (·.1)) τ m
  | [], [], [], t, m, _, _, _ => rfl
  | q :: l, r :: rs, n :: τ, t, m, h1, h2, h => by
    have ih := atL_chN (l := l) (rs := rs) (τ := τ) (t := t) (m := m) (by simpa using h1) (by simpa using h2) fun i hi => by
      have := h (i + 1) (by simpa using hi)
      simpa [perN] using this
    have h0 := h 0 (by simp)
    simp only [perN, List.map_cons, List.getD_cons_zero] at h0
    show (if t % q.2.toNat = r then q.1 :: atL l rs t else atL l rs t) = (if n = m then q.1 :: chN (l.map (·.1)) τ m else chN (l.map (·.1)) τ m)
    by_cases e : n = m
    · rw [if_pos e, if_pos (h0.mpr e), ih]
    · rw [if_neg e, if_neg (fun z => e (h0.mp z)), ih]
theorem hit_iff {ps xs : List Nat} (W : Tw ps xs) {k t : Nat} (lo : ∀ j, k = j + 1 → tmN ps xs j < t) (hi : t ≤ tmN ps xs k) {i : Nat} (h : i < ps.length) : t % ps.getD i 0 = xs.getD i 0 ↔ stAt ps xs k i = t := by
  have hc := st_cnt W k h
  have hl := W.lt i h
  constructor
  · intro e
    obtain ⟨a, e1⟩ : ∃ a, t = xs.getD i 0 + a * ps.getD i 0 := ⟨t / ps.getD i 0, by
      have := Nat.mod_add_div t (ps.getD i 0)
      rw [e, Nat.mul_comm] at this
      exact this.symm⟩
    have hle := tm_le W k h
    have hp := W.pos i h
    have h1 : a * ps.getD i 0 ≤ cntN ps xs k i * ps.getD i 0 := by omega
    have h2 : a ≤ cntN ps xs k i := Nat.le_of_mul_le_mul_right h1 hp
    by_cases h3 : a = cntN ps xs k i
    · rw [hc, ← h3]; exact e1.symm
    · exfalso
      cases k with
      | zero =>
        have : cntN ps xs 0 i = 0 := rfl
        omega
      | succ k =>
        have h4 := last_le W k h (by omega)
        have h5 := lo k rfl
        have h6 : a * ps.getD i 0 ≤ (cntN ps xs (k + 1) i - 1) * ps.getD i 0 := Nat.mul_le_mul_right _ (by omega)
        omega
  · intro e
    rw [← e, hc, Nat.add_mul_mod_self_right, Nat.mod_eq_of_lt hl]
theorem chN_none : ∀ {cs τ : List Nat} {m : Nat}, (∀ a ∈ τ, a ≠ m) → chN cs τ m = []
  | [], _, _, _ => by simp [chN]
  | _ :: _, [], _, _ => by simp [chN]
  | c :: cs, n :: τ, m, h => by
    unfold chN
    rw [if_neg (h n (by simp)), chN_none fun a ha => h a (by simp [ha])]
theorem row_tw {l : List (Nat × Int)} (b : BellsT l) {rs : List Nat} (hl : rs.length = l.length) (h : ∀ i, i < (perN l).length → rs.getD i 0 < (perN l).getD i 0) : Tw (perN l) rs := by
  have hlo := b.lo
  refine ⟨fun z => ?_, by rw [len_pers]; exact hl, h, fun i hi => ?_⟩
  · have := len_pers l
    rw [z] at this
    simp at this
    omega
  · have hi' : i < l.length := by rw [len_pers] at hi; exact hi
    have := b.per l[i] (List.getElem_mem hi')
    unfold perN
    simp [List.getD, hi']
    omega
theorem RowP.at' : ∀ {ps rs : List Nat}, RowP ps rs → ∀ i, i < ps.length → rs.getD i 0 < ps.getD i 0
  | [], [], _, i, h => by simp at h
  | p :: ps, r :: rs, h, 0, _ => by simpa using h.1
  | p :: ps, r :: rs, h, i + 1, g => by simpa using RowP.at' h.2 i (by simpa using g)
theorem RowP.tw {l : List (Nat × Int)} (b : BellsT l) {rs : List Nat} (h : RowP (perN l) rs) : Tw (perN l) rs := row_tw b (by rw [h.len, len_pers]) h.at'
theorem at_hit {l : List (Nat × Int)} (b : BellsT l) {rs : List Nat} (h : RowP (perN l) rs) (k : Nat) : atL l rs (tmN (perN l) rs k) = chime (l.map (·.1)) (perN l) rs k := by
  have W := h.tw b
  refine atL_chN (by rw [h.len, len_pers]) (by rw [st_len W, len_pers]) fun i hi => ?_
  refine hit_iff W (fun j hj => ?_) (Nat.le_refl _) (by rw [len_pers]; exact hi)
  subst hj
  exact tm_lt W j
theorem at_miss {l : List (Nat × Int)} (b : BellsT l) {rs : List Nat} (h : RowP (perN l) rs) {k t : Nat} (lo : ∀ j, k = j + 1 → tmN (perN l) rs j < t) (hi : t < tmN (perN l) rs k) : atL l rs t = [] := by
  have W := h.tw b
  rw [atL_chN (τ := stN (perN l) rs k) (m := t) (by rw [h.len, len_pers]) (by rw [st_len W, len_pers]) fun i hi' => hit_iff W lo (by omega) (by rw [len_pers]; exact hi')]
  refine chN_none fun a ha => ?_
  obtain ⟨i, h1, h2⟩ := mem_getD ha
  rw [st_len W] at h1
  have := tm_le W k h1
  unfold stAt at this
  omega
theorem chime_ne {l : List (Nat × Int)} (b : BellsT l) {rs : List Nat} (h : RowP (perN l) rs) (k : Nat) : chime (l.map (·.1)) (perN l) rs k ≠ [] := by
  have W := h.tw b
  obtain ⟨i, h1, h2⟩ := tm_ex W k
  have hl : (l.map (·.1)).length = (perN l).length := by rw [List.length_map, len_pers]
  have hn : (l.map (·.1)).Nodup := b.asc.imp fun {a c} h => by omega
  have hm := (hits_mem (cs := l.map (·.1)) W hn hl k h1).mp h2
  intro z
  rw [z] at hm
  cases hm
end Law
namespace Law
open PySem DL G
end Law
namespace Law
open PySem DL G
noncomputable abbrev ltT : M Bool := (sB (sBin ltD (sCB lenF (oCons (sVar 3) oNil)) (sVar 2)))
noncomputable abbrev ltB : M Fl := (sSeq (sSet 5 (sCallF (argN 3 F_law_at) (sCons (cap (sVar 0)) (sCons (cap (sVar 1)) (sCons (cap (sVar 4)) sNil)))))
 (sSeq (sIf (sB (sBin neD (sVar 5) (sK (.str ""))))
 (sDrop (sMut isLst appendM (sVar 3) (sCons (cap (sTup (sCons (cap (sVar 4)) (sCons (cap (sVar 5)) sNil)))) sNil)))
 sSkip)
 (sSet 4 (sBin addD (sVar 4) (sK (.int 1))))))
theorem lt_test {F : List D} {n : Nat} (x0 x1 x4 x5 : Sl) : ltT [x0, x1, .dat (.int n), .own (.lst F), x4, x5] = some (.ok (decide (F.length < n)), [x0, x1, .dat (.int n), .own (.lst F), x4, x5]) := by
  have h : decide ((F.length : Int) < (n : Int)) = decide (F.length < n) := decide_eq_decide.mpr (by omega)
  rw [← h]
  generalize (n : Int) = m
  simp [bnd_ap]
theorem lt_miss {B R V : D} {F : List D} {t : Int} (h : F_law_at [B, R, .int t] = some (.ok (.dat V))) (hv : neD V (.str "") = some (.dat (.bl false))) (x2 x5 : Sl) : ltB [.dat B, .dat R, x2, .own (.lst F), .dat (.int t), x5] = some (.ok .nx, [.dat B, .dat R, x2, .own (.lst F), .dat (.int (t + 1)), .dat V]) := by
  simp [bnd_ap, h, hv]
theorem lt_hit {B R V : D} {F : List D} {t : Int} (h : F_law_at [B, R, .int t] = some (.ok (.dat V))) (hv : neD V (.str "") = some (.dat (.bl true))) (hF : F.length < 16777216) (x2 x5 : Sl) : ltB [.dat B, .dat R, x2, .own (.lst F), .dat (.int t), x5] = some (.ok .nx, [.dat B, .dat R, x2, .own (.lst (F ++ [.tup [.int t, V]])), .dat (.int (t + 1)), .dat V]) := by
  simp [bnd_ap, h, hv, hF, mkTup_ok]
def pairC (l : List (Nat × Int)) (rs : List Nat) (k : Nat) : D := .tup [.int ((tmN (perN l) rs k : Nat) : Int), sD (chime (l.map (·.1)) (perN l) rs k)]
theorem lt_reach {l : List (Nat × Int)} (b : BellsT l) {rs : List Nat} (h : RowP (perN l) rs) {many k : Nat} {F : List D} (hF : F.length < many) (hm : many ≤ 900000) : ∀ (d t : Nat) (x5 : Sl), t + d = tmN (perN l) rs k → (∀ j, k = j + 1 → tmN (perN l) rs j < t) → ∃ y5,
    sWhile ltT ltB [.dat (bellsD l), .dat (rowD rs), .dat (.int many), .own (.lst F), .dat (.int t), x5] = sWhile ltT ltB [.dat (bellsD l), .dat (rowD rs), .dat (.int many), .own (.lst (F ++ [pairC l rs k])), .dat (.int ((tmN (perN l) rs k + 1 : Nat) : Int)), y5]
  | 0, t, x5, e, lo => by
    have hl : rs.length = l.length := by rw [h.len, len_pers]
    have ha := at_ok b hl t
    rw [Nat.add_zero] at e
    have ht := at_hit b h k
    rw [← e] at ht
    rw [ht] at ha
    have hv := ne_S (chime (l.map (·.1)) (perN l) rs k) []
    rw [decide_eq_false (chime_ne b h k), ← e_empty] at hv
    refine ⟨.dat (sD (chime (l.map (·.1)) (perN l) rs k)), ?_⟩
    unfold pairC
    rw [← e]
    exact sWhile_step (Γ1 := [.dat (bellsD l), .dat (rowD rs), .dat (.int many), .own (.lst F), .dat (.int t), x5]) (by rw [lt_test, decide_eq_true hF]) (lt_hit ha hv (by omega) _ x5) (.inl rfl)
  | d + 1, t, x5, e, lo => by
    have hl : rs.length = l.length := by rw [h.len, len_pers]
    have ha := at_ok b hl t
    rw [at_miss b h (k := k) (t := t) lo (by omega)] at ha
    have hv := ne_S [] []
    rw [decide_eq_true rfl, ← e_empty] at hv
    rw [← e_empty] at ha
    obtain ⟨y5, ih⟩ := lt_reach b h (k := k) hF hm d (t + 1) (.dat (.str "")) (by omega) (fun j hj => by have := lo j hj; omega)
    refine ⟨y5, ?_⟩
    rw [← ih]
    exact sWhile_step (Γ1 := [.dat (bellsD l), .dat (rowD rs), .dat (.int many), .own (.lst F), .dat (.int t), x5]) (by rw [lt_test, decide_eq_true hF]) (lt_miss ha hv _ x5) (.inl rfl)
theorem lt_loop {l : List (Nat × Int)} (b : BellsT l) {rs : List Nat} (h : RowP (perN l) rs) {many : Nat} (hm : many ≤ 900000) : ∀ (m k t : Nat) (F : List D) (x5 : Sl), F.length + m = many → F.length = k → t ≤ tmN (perN l) rs k → (∀ j, k = j + 1 → tmN (perN l) rs j < t) → ∃ y4 y5,
    sWhile ltT ltB [.dat (bellsD l), .dat (rowD rs), .dat (.int many), .own (.lst F), .dat (.int t), x5] = some (.ok .nx, [.dat (bellsD l), .dat (rowD rs), .dat (.int many), .own (.lst (F ++ (List.range m).map fun i => pairC l rs (k + i))), y4, y5])
  | 0, k, t, F, x5, e, ek, ht, lo => ⟨.dat (.int t), x5, by
    rw [show (List.range 0).map (fun i => pairC l rs (k + i)) = [] from rfl, List.append_nil]
    exact sWhile_stop (by rw [lt_test, decide_eq_false (by omega)])⟩
  | m + 1, k, t, F, x5, e, ek, ht, lo => by
    obtain ⟨z5, e1⟩ := lt_reach b h (k := k) (F := F) (many := many) (by omega) hm (tmN (perN l) rs k - t) t x5 (by omega) lo
    have W := h.tw b
    obtain ⟨y4, y5, ih⟩ := lt_loop b h hm m (k + 1) (tmN (perN l) rs k + 1) (F ++ [pairC l rs k]) z5 (by rw [List.length_append, List.length_singleton]; omega) (by rw [List.length_append, List.length_singleton]; omega) (tm_lt W k) (fun j hj => by
      have : j = k := by omega
      subst this; omega)
    refine ⟨y4, y5, ?_⟩
    rw [e1, ih]
    have e2 : F ++ (List.range (m + 1)).map (fun i => pairC l rs (k + i)) = F ++ [pairC l rs k] ++ (List.range m).map fun i => pairC l rs (k + 1 + i) := by
      rw [List.range_succ_eq_map, List.map_cons, List.map_map, List.append_assoc, List.singleton_append, Nat.add_zero]
      congr 2
      exact List.map_congr_left fun i _ => by show pairC l rs (k + (i + 1)) = _; rw [show k + (i + 1) = k + 1 + i by omega]
    rw [e2]
theorem timed_ok {l : List (Nat × Int)} (b : BellsT l) {rs : List Nat} (h : RowP (perN l) rs) {many : Nat} (hm : many ≤ 900000) : F_law_timed [bellsD l, rowD rs, .int many] = some (.ok (.own (.lst ((List.range many).map (pairC l rs))))) := by
  obtain ⟨y4, y5, e⟩ := lt_loop b h hm many 0 0 [] .un (by simp) rfl (Nat.zero_le _) (fun j hj => by cases hj)
  have e2 : ([] : List D) ++ (List.range many).map (fun i => pairC l rs (0 + i)) = (List.range many).map (pairC l rs) := by
    rw [List.nil_append]
    exact List.map_congr_left fun i _ => by rw [Nat.zero_add]
  rw [e2] at e
  generalize (List.range many).map (pairC l rs) = O at *
  generalize bellsD l = B at *
  generalize rowD rs = R at *
  refine runDef_to (f := .rt (.slot 3)) (Γ := [.dat B, .dat R, .dat (.int many), .un, .un, .un]) (Γ' := [.dat B, .dat R, .dat (.int many), .own (.lst O), y4, y5]) rfl ?_ rfl
  refine sSeq_to (Γ' := [.dat B, .dat R, .dat (.int many), .own (.lst []), .dat (.int 0), .un]) (by simp [bnd_ap]) ?_
  exact sSeq_to e rfl
def chimesD (l : List (Nat × Int)) (rs : List Nat) (many : Nat) : List D := (List.range many).map fun k => sD (chime (l.map (·.1)) (perN l) rs k)
theorem chimes_run {B R n : D} {P : List D} (hl : P.length ≤ 900000) (hP : ∀ d ∈ P, ∃ t c, d = .tup [t, c]) (h : F_law_timed [B, R, n] = some (.ok (.own (.lst P)))) : F_law_chimes [B, R, n] = some (.ok (.dat (.tup (P.map sndD)))) := by
  have e := fun (x0 x1 x2 : D) => loopL_map (g := gTupD 2 (gMore (gSet 3) (gMore (gSet 4) gNone))) (ce := cap (sVar 4)) (vs := [3, 4]) (Γ0 := [.dat x0, .dat x1, .dat x2, .un, .un]) (f := sndD) P (fun d hd => by
    obtain ⟨t, c, rfl⟩ := hP d hd
    exact ⟨[.dat x0, .dat x1, .dat x2, .dat t, .dat c], _, rfl, rfl, rfl⟩) (by omega)
  generalize P.map sndD = Q at *
  simp [F_law_chimes, runDef_ap, c_law_chimes, st0, bnd_ap, h, e]
theorem chimes_ok {l : List (Nat × Int)} (b : BellsT l) {rs : List Nat} (h : RowP (perN l) rs) {many : Nat} (hm : many ≤ 900000) : F_law_chimes [bellsD l, rowD rs, .int many] = some (.ok (.dat (.tup (chimesD l rs many)))) := by
  have e := chimes_run (by rw [List.length_map, List.length_range]; exact hm) (fun d hd => by
    obtain ⟨k, _, rfl⟩ := List.mem_map.mp hd
    exact ⟨_, _, rfl⟩) (timed_ok b h hm)
  rw [List.map_map] at e
  exact e
end Law
namespace FW
abbrev En (α : Type) := Int × List α
abbrev Mx (α : Type) := Nat → Nat → Option (En α)
section
variable {α : Type}
def put (S : Mx α) (u v : Nat) (e : En α) : Mx α := fun a b => if a = u ∧ b = v then some e else S a b
def better (o : Option (En α)) (w : Int) : Bool := match o with
  | none => true
  | some (c, _) => decide (c < w)
def cat (a b : En α) : En α := (a.1 + b.1, a.2 ++ b.2)
def relax (S : Mx α) (k u v : Nat) : Mx α := match S u k, S k v with
  | some a, some b => if better (S u v) (a.1 + b.1) then put S u v (cat a b) else S
  | _, _ => S
def cells (S : Mx α) (k u : Nat) : List Nat → Mx α
  | [] => S
  | v :: vs => cells (relax S k u v) k u vs
def rows (n : Nat) (S : Mx α) (k : Nat) : List Nat → Except (List α) (Mx α)
  | [] => .ok S
  | u :: us => match S u u with
    | none => .error []
    | some e => if 0 < e.1 then .error e.2 else rows n (cells S k u (List.range n)) k us
def mids (n : Nat) (S : Mx α) : List Nat → Except (List α) (Mx α)
  | [] => .ok S
  | k :: ks => match rows n S k (List.range n) with
    | .error r => .error r
    | .ok S' => mids n S' ks
def ends (S : Mx α) : List Nat → Except (List α) (Mx α)
  | [] => .ok S
  | u :: us => match S u u with
    | none => .error []
    | some e => if 0 < e.1 then .error e.2 else ends S us
def close (n : Nat) (S : Mx α) : Except (List α) (Mx α) := match mids n S (List.range n) with
  | .error r => .error r
  | .ok S' => ends S' (List.range n)
theorem put_at (S : Mx α) (u v : Nat) (e : En α) : put S u v e u v = some e := by simp [put]
theorem put_ne (S : Mx α) {u v a b : Nat} (e : En α) (h : ¬ (a = u ∧ b = v)) : put S u v e a b = S a b := by simp [put, h]
structure Kept (n : Nat) (P : Mx α → Prop) : Prop where
  step : ∀ S k u v a b, k < n → u < n → v < n → P S → S u k = some a → S k v = some b → better (S u v) (a.1 + b.1) = true → P (put S u v (cat a b))
variable {n : Nat} {P : Mx α → Prop}
theorem Kept.relax (K : Kept n P) {S : Mx α} {k u v : Nat} (hk : k < n) (hu : u < n) (hv : v < n) (h : P S) : P (relax S k u v) := by
  unfold FW.relax
  split
  · rename_i a b e1 e2
    split
    · rename_i hb
      exact K.step S k u v a b hk hu hv h e1 e2 hb
    · exact h
  · exact h
theorem Kept.cells (K : Kept n P) {k u : Nat} (hk : k < n) (hu : u < n) : ∀ (vs : List Nat) (S : Mx α), (∀ v ∈ vs, v < n) → P S → P (cells S k u vs)
  | [], S, _, h => h
  | v :: vs, S, hv, h => Kept.cells K hk hu vs _ (fun w hw => hv w (List.mem_cons_of_mem _ hw)) (K.relax hk hu (hv v (List.mem_cons_self ..)) h)
def Bad (P : Mx α → Prop) (n : Nat) (r : List α) : Prop := ∃ S u w, P S ∧ u < n ∧ S u u = some (w, r) ∧ 0 < w
def Diag (n : Nat) (S : Mx α) : Prop := ∀ u, u < n → ∃ w c, S u u = some (w, c) ∧ 0 ≤ w
theorem Kept.and {P Q : Mx α → Prop} (A : Kept n P) (B : Kept n Q) : Kept n fun S => P S ∧ Q S where
  step := fun S k u v a b hk hu hv h e1 e2 hb => ⟨A.step S k u v a b hk hu hv h.1 e1 e2 hb, B.step S k u v a b hk hu hv h.2 e1 e2 hb⟩
def Out (P : Mx α → Prop) (n : Nat) : Except (List α) (Mx α) → Prop
  | .ok S => P S
  | .error r => Bad P n r
theorem Kept.rows (K : Kept n P) (D : ∀ S, P S → Diag n S) {k : Nat} (hk : k < n) : ∀ (us : List Nat) (S : Mx α), (∀ v ∈ us, v < n) → P S → Out P n (rows n S k us)
  | [], S, _, h => h
  | u :: us, S, hv, h => by
    obtain ⟨w, c, e, p⟩ := D S h u (hv u (List.mem_cons_self ..))
    unfold FW.rows
    rw [e]
    by_cases hw : 0 < w
    · simp only [hw, if_true]
      exact ⟨S, u, w, h, hv u (List.mem_cons_self ..), e, hw⟩
    · simp only [hw, if_false]
      exact Kept.rows K D hk us _ (fun w hw => hv w (List.mem_cons_of_mem _ hw)) (K.cells hk (hv u (List.mem_cons_self ..)) _ _ (fun v hv => List.mem_range.mp hv) h)
theorem Kept.mids (K : Kept n P) (D : ∀ S, P S → Diag n S) : ∀ (ks : List Nat) (S : Mx α), (∀ v ∈ ks, v < n) → P S → Out P n (mids n S ks)
  | [], S, _, h => h
  | k :: ks, S, hv, h => by
    have h1 := K.rows D (hv k (List.mem_cons_self ..)) (List.range n) S (fun v hv => List.mem_range.mp hv) h
    unfold FW.mids
    cases e : FW.rows n S k (List.range n) with
    | error r => rw [e] at h1; exact h1
    | ok S' => rw [e] at h1; exact Kept.mids K D ks S' (fun w hw => hv w (List.mem_cons_of_mem _ hw)) h1
theorem ends_out (D : ∀ S, P S → Diag n S) : ∀ (us : List Nat) (S : Mx α), (∀ v ∈ us, v < n) → P S → Out P n (ends S us)
  | [], S, _, h => h
  | u :: us, S, hv, h => by
    obtain ⟨w, c, e, p⟩ := D S h u (hv u (List.mem_cons_self ..))
    unfold ends
    rw [e]
    by_cases hw : 0 < w
    · simp only [hw, if_true]
      exact ⟨S, u, w, h, hv u (List.mem_cons_self ..), e, hw⟩
    · simp only [hw, if_false]
      exact ends_out D us S (fun w hw => hv w (List.mem_cons_of_mem _ hw)) h
theorem Kept.close (K : Kept n P) (D : ∀ S, P S → Diag n S) {S : Mx α} (h : P S) : Out P n (close n S) := by
  have h1 := K.mids D (List.range n) S (fun v hv => List.mem_range.mp hv) h
  unfold FW.close
  cases e : FW.mids n S (List.range n) with
  | error r => rw [e] at h1; exact h1
  | ok S' => rw [e] at h1; exact ends_out D _ S' (fun v hv => List.mem_range.mp hv) h1
def Sat (x : Nat → Int) (S : Mx α) : Prop := ∀ u v e, S u v = some e → e.1 ≤ x v - x u
def Above (S0 S : Mx α) : Prop := ∀ u v e, S0 u v = some e → ∃ e', S u v = some e' ∧ e.1 ≤ e'.1
theorem Above.sat {S0 S : Mx α} (A : Above S0 S) {x : Nat → Int} (h : Sat x S) : Sat x S0 := fun u v e he => by
  obtain ⟨e', h1, h2⟩ := A u v e he
  have := h _ _ _ h1
  omega
def Within (n : Nat) (S : Mx α) : Prop := ∀ u v e, S u v = some e → u < n ∧ v < n
def over (S : Mx α) (k u v : Nat) : Option (En α) := match S u k, S k v with
  | some a, some b => if better (S u v) (a.1 + b.1) then some (cat a b) else S u v
  | _, _ => S u v
theorem relax_at (S : Mx α) (k u v : Nat) : relax S k u v u v = over S k u v := by
  unfold relax over
  cases h1 : S u k with
  | none => rfl
  | some a =>
    cases h2 : S k v with
    | none => rfl
    | some b =>
      simp only
      split
      · exact put_at ..
      · rfl
theorem relax_ne (S : Mx α) {k u v a b : Nat} (h : ¬ (a = u ∧ b = v)) : relax S k u v a b = S a b := by
  unfold relax
  cases h1 : S u k with
  | none => rfl
  | some a =>
    cases h2 : S k v with
    | none => rfl
    | some b =>
      simp only
      split
      · exact put_ne _ _ h
      · rfl
theorem over_row {S : Mx α} {k v : Nat} {c : List α} (h : S k k = some (0, c)) : over S k k v = S k v := by
  unfold over
  rw [h]
  cases e : S k v with
  | none => rfl
  | some a =>
    have hb : better (some a) (0 + a.1) = false := by
      obtain ⟨a1, a2⟩ := a
      simp [better]
    simp only [hb]
    rfl
theorem cells_other {k u : Nat} : ∀ (vs : List Nat) (S : Mx α) {a b : Nat}, a ≠ u → cells S k u vs a b = S a b
  | [], S, a, b, h => rfl
  | v :: vs, S, a, b, h => by
    show cells (relax S k u v) k u vs a b = _
    rw [cells_other vs _ h, relax_ne S (fun z => h z.1)]
theorem over_some {S : Mx α} {k u v : Nat} {c : En α} (h : over S k u v = some c) : S u v = some c ∨ ∃ a b, S u k = some a ∧ S k v = some b ∧ c = cat a b := by
  unfold over at h
  split at h
  · rename_i a b e1 e2
    split at h
    · injection h with h
      exact .inr ⟨a, b, e1, e2, h.symm⟩
    · exact .inl h
  · exact .inl h
end
end FW
namespace Law
open PySem DL G
theorem lk_pr (f : Nat × Nat → D) (p : Nat × Nat) : ∀ ks : List (Nat × Nat), lkD (ks.map prD) (ks.map f) (prD p) = if p ∈ ks then some (f p) else none
  | [] => rfl
  | k :: ks => by
    have ih := lk_pr f p ks
    show (if kE (prD k) (prD p) then some (f k) else lkD (ks.map prD) (ks.map f) (prD p)) = _
    rw [kE_pr, ih]
    by_cases h : k = p
    · subst h; simp
    · rw [decide_eq_false h]
      have : ¬ p = k := fun z => h z.symm
      simp [List.mem_cons, this]
theorem has_pr (p : Nat × Nat) (ks : List (Nat × Nat)) : hasD (ks.map prD) (prD p) = decide (p ∈ ks) := by
  unfold hasD
  rw [List.any_map]
  induction ks with
  | nil => rfl
  | cons k ks ih =>
    rw [List.any_cons, ih]
    show (kE (prD k) (prD p) || _) = _
    rw [kE_pr]
    by_cases h : k = p
    · subst h; simp
    · have : ¬ p = k := fun z => h z.symm
      simp [h, List.mem_cons, this]
theorem repl_pr (f : Nat × Nat → D) (p : Nat × Nat) (y : D) : ∀ ks : List (Nat × Nat), replV (ks.map prD) (ks.map f) (prD p) y = ks.map fun q => if q = p then y else f q
  | [] => rfl
  | k :: ks => by
    have ih := repl_pr f p y ks
    show (if kE (prD k) (prD p) then y else f k) :: replV (ks.map prD) (ks.map f) (prD p) y = _
    rw [ih, kE_pr, List.map_cons]
    by_cases h : k = p <;> simp [h]
theorem tup_pr (ks : List (Nat × Nat)) : (ks.map prD).all tupK = true := List.all_eq_true.mpr fun d hd => by
  obtain ⟨p, _, rfl⟩ := List.mem_map.mp hd
  rfl
theorem sub_len {α : Type} [DecidableEq α] : ∀ {as bs : List α}, as.Nodup → (∀ a ∈ as, a ∈ bs) → as.length ≤ bs.length
  | [], bs, _, _ => Nat.zero_le _
  | a :: as, bs, hn, h => by
    have hn' := List.nodup_cons.mp hn
    have h1 : as.length ≤ (bs.erase a).length := sub_len hn'.2 fun x hx => by
      have hxa : x ≠ a := fun z => hn'.1 (by rw [← z]; exact hx)
      exact (List.mem_erase_of_ne hxa).mpr (h x (List.mem_cons_of_mem _ hx))
    have h2 : (bs.erase a).length = bs.length - 1 := List.length_erase_of_mem (h a (List.mem_cons_self ..))
    have h3 : 0 < bs.length := List.length_pos_of_mem (h a (List.mem_cons_self ..))
    rw [List.length_cons]
    omega
def all36 : List (Nat × Nat) := (List.range 6).flatMap fun i => (List.range 6).map fun j => (i, j)
theorem keys_len {ks : List (Nat × Nat)} (hn : ks.Nodup) (h : ∀ p ∈ ks, p.1 < 6 ∧ p.2 < 6) : ks.length ≤ 36 :=
  sub_len (bs := all36) hn fun p hp => List.mem_flatMap.mpr ⟨p.1, List.mem_range.mpr (h p hp).1, List.mem_map.mpr ⟨p.2, List.mem_range.mpr (h p hp).2, rfl⟩⟩
def RepM (d : D) (S : Nat → Nat → Option D) : Prop := ∃ ks : List (Nat × Nat), ks ≠ [] ∧ ks.Nodup ∧ (∀ p ∈ ks, p.1 < 6 ∧ p.2 < 6) ∧ (∀ u v, (u, v) ∈ ks ↔ S u v ≠ none) ∧ d = .dic (ks.map prD) (ks.map fun p => (S p.1 p.2).getD .non)
theorem RepM.ok {ks : List (Nat × Nat)} (h : ks ≠ []) (p : Nat × Nat) : okGet (ks.map prD) (prD p) = true := by
  unfold okGet
  rw [tup_pr]
  cases ks with
  | nil => exact absurd rfl h
  | cons a b => rfl
theorem RepM.get {d : D} {S : Nat → Nat → Option D} (R : RepM d S) {u v : Nat} {x : D} (h : S u v = some x) : getD2 d (prD (u, v)) = some (.dat x) := by
  obtain ⟨ks, h1, h2, h3, h4, rfl⟩ := R
  rw [getD2_dic, if_pos (RepM.ok h1 _), lk_pr, if_pos ((h4 u v).mpr (by rw [h]; simp))]
  simp [h]
theorem RepM.has {d : D} {S : Nat → Nat → Option D} (R : RepM d S) (u v : Nat) : inD2 (prD (u, v)) d = some (.dat (.bl (S u v).isSome)) := by
  obtain ⟨ks, h1, h2, h3, h4, rfl⟩ := R
  rw [inD2_dic, if_pos (RepM.ok h1 _), has_pr]
  have := h4 u v
  cases e : S u v with
  | none => rw [decide_eq_false (fun z => this.mp z e)]; rfl
  | some x => rw [decide_eq_true (this.mpr (by rw [e]; simp))]; rfl
def putS2 (S : Nat → Nat → Option D) (u v : Nat) (x : D) : Nat → Nat → Option D := fun a b => if a = u ∧ b = v then some x else S a b
theorem RepM.put {d : D} {S : Nat → Nat → Option D} (R : RepM d S) {u v : Nat} (hu : u < 6) (hv : v < 6) (x : D) : ∃ d', putDM d [prD (u, v), x] = some (.ok (.dat .non), d') ∧ RepM d' (putS2 S u v x) := by
  obtain ⟨ks, h1, h2, h3, h4, rfl⟩ := R
  have hl := keys_len h2 h3
  have ok : okPut (ks.map prD) (prD (u, v)) = true := okPut_tup _ _ rfl (tup_pr ks)
  rw [putDM_dic, ok, Bool.true_and, if_pos (decide_eq_true (by rw [List.length_map]; show _ < 16777216; omega))]
  refine ⟨_, rfl, ?_⟩
  unfold ptK ptV
  rw [has_pr]
  by_cases hm : (u, v) ∈ ks
  · rw [decide_eq_true hm]
    refine ⟨ks, h1, h2, h3, fun a b => ?_, ?_⟩
    · unfold putS2
      by_cases e : a = u ∧ b = v
      · obtain ⟨rfl, rfl⟩ := e
        simp [hm]
      · rw [if_neg e]; exact h4 a b
    · simp only [if_true]
      rw [repl_pr]
      congr 1
      refine List.map_congr_left fun q hq => ?_
      unfold putS2
      by_cases e : q = (u, v)
      · subst e; simp
      · have : ¬ (q.1 = u ∧ q.2 = v) := fun z => e (Prod.ext z.1 z.2)
        rw [if_neg e, if_neg this]
  · rw [decide_eq_false hm]
    refine ⟨ks ++ [(u, v)], by simp, ?_, ?_, fun a b => ?_, ?_⟩
    · rw [List.nodup_append]
      exact ⟨h2, by simp, fun a ha b hb => by rw [List.mem_singleton] at hb; subst hb; exact fun z => hm (z ▸ ha)⟩
    · intro p hp
      rcases List.mem_append.mp hp with hp | hp
      · exact h3 p hp
      · rw [List.mem_singleton] at hp; subst hp; exact ⟨hu, hv⟩
    · unfold putS2
      by_cases e : a = u ∧ b = v
      · obtain ⟨rfl, rfl⟩ := e
        simp
      · rw [if_neg e]
        have : (a, b) ≠ (u, v) := fun z => e (by simpa using z)
        simp [List.mem_append, this, h4 a b]
    · simp only [Bool.false_eq_true, if_false]
      rw [List.map_append, List.map_append, List.map_singleton, List.map_singleton]
      congr 2
      · refine List.map_congr_left fun q hq => ?_
        unfold putS2
        have : ¬ (q.1 = u ∧ q.2 = v) := fun z => hm (by rw [← z.1, ← z.2]; exact hq)
        rw [if_neg this]
      · unfold putS2; simp
theorem RepM.congr {d : D} {S S' : Nat → Nat → Option D} (R : RepM d S) (h : ∀ u v, S u v = S' u v) : RepM d S' := by
  have : S = S' := by funext u v; exact h u v
  rw [← this]; exact R
end Law
namespace FW
variable {α : Type}
def Ln (L : Nat) (S : Mx α) : Prop := ∀ u v e, S u v = some e → e.2.length ≤ L
structure RowB (k u L : Nat) (vs : List Nat) (S : Mx α) : Prop where
  rk : ∀ v e, S k v = some e → e.2.length ≤ L
  c1 : k ∈ vs → ∀ e, S u k = some e → e.2.length ≤ L
  c2 : ∀ e, S u k = some e → e.2.length ≤ 2 * L
  al : Ln (3 * L) S
  ne : u ≠ k ∨ ∃ c, S k k = some (0, c)
theorem relax_same {S : Mx α} {k v : Nat} {c : List α} (h : S k k = some (0, c)) : relax S k k v = S := by
  funext a b
  by_cases e : a = k ∧ b = v
  · obtain ⟨rfl, rfl⟩ := e
    rw [relax_at, over_row h]
  · exact relax_ne S e
theorem RowB.step {k u L v : Nat} {vs : List Nat} {S : Mx α} (nd : (v :: vs).Nodup) (R : RowB k u L (v :: vs) S) : RowB k u L vs (relax S k u v) := by
  have nv : v ∉ vs := (List.nodup_cons.mp nd).1
  by_cases hu : u = k
  · subst hu
    rcases R.ne with h | ⟨c, h⟩
    · exact absurd rfl h
    · rw [relax_same h]
      exact ⟨R.rk, fun hk => R.c1 (List.mem_cons_of_mem _ hk), R.c2, R.al, .inr ⟨c, h⟩⟩
  · have other : ∀ {a b : Nat}, ¬ (a = u ∧ b = v) → relax S k u v a b = S a b := fun h => relax_ne S h
    have at_ : ∀ e, relax S k u v u v = some e → S u v = some e ∨ ∃ a b, S u k = some a ∧ S k v = some b ∧ e = cat a b := fun e he => over_some (by rw [← relax_at]; exact he)
    refine ⟨fun w e he => ?_, fun hk e he => ?_, fun e he => ?_, fun a b e he => ?_, .inl hu⟩
    · rw [other (fun z => hu z.1.symm)] at he
      exact R.rk w e he
    · have : k ≠ v := fun z => nv (by rw [← z]; exact hk)
      rw [other (fun z => this z.2)] at he
      exact R.c1 (List.mem_cons_of_mem _ hk) e he
    · by_cases hv : k = v
      · subst hv
        rcases at_ e he with h | ⟨a, b, h1, h2, rfl⟩
        · exact R.c2 e h
        · have g1 := R.c1 (List.mem_cons_self ..) a h1
          have g2 := R.rk _ b h2
          show (a.2 ++ b.2).length ≤ _
          rw [List.length_append]; omega
      · rw [other (fun z => hv z.2)] at he
        exact R.c2 e he
    · by_cases hv : a = u ∧ b = v
      · rw [hv.1, hv.2] at he
        rcases at_ e he with h | ⟨x, y, h1, h2, rfl⟩
        · exact R.al _ _ e h
        · have g1 := R.c2 x h1
          have g2 := R.rk v y h2
          show (x.2 ++ y.2).length ≤ _
          rw [List.length_append]; omega
      · rw [other hv] at he
        exact R.al _ _ e he
structure RoundB (k L : Nat) (us : List Nat) (S : Mx α) : Prop where
  rk : ∀ v e, S k v = some e → e.2.length ≤ L
  todo : ∀ u ∈ us, ∀ v e, S u v = some e → e.2.length ≤ L
  al : Ln (3 * L) S
theorem RoundB.start {k L : Nat} {us : List Nat} {S : Mx α} (h : Ln L S) : RoundB k L us S :=
  ⟨fun v e he => h _ _ e he, fun u _ v e he => h _ _ e he, fun u v e he => by have := h u v e he; omega⟩
theorem RoundB.row {k L u : Nat} {us : List Nat} {S : Mx α} (R : RoundB k L (u :: us) S) (vs : List Nat) (h : u ≠ k ∨ ∃ c, S k k = some (0, c)) : RowB k u L vs S :=
  ⟨R.rk, fun _ e he => R.todo u (List.mem_cons_self ..) k e he, fun e he => by have := R.todo u (List.mem_cons_self ..) k e he; omega, R.al, h⟩
theorem RoundB.next {k L u : Nat} {us vs : List Nat} {S : Mx α} (nd : (u :: us).Nodup) (R : RoundB k L (u :: us) S) (F : RowB k u L [] (cells S k u vs)) : RoundB k L us (cells S k u vs) :=
  ⟨F.rk, fun w hw v e he => by
    have : w ≠ u := fun z => (List.nodup_cons.mp nd).1 (by rw [← z]; exact hw)
    rw [cells_other _ _ this] at he
    exact R.todo w (List.mem_cons_of_mem _ hw) v e he, F.al⟩
end FW
namespace Law
inductive Mk where
  | start | st (c n : Nat)
deriving DecidableEq
def bump (ch : List Nat) (num : Nat → Nat) : Nat → Nat := fun c => if c ∈ ch then num c + 1 else num c
def wst : Mk → Int
  | .start => 0
  | .st _ _ => 1
def pairsH (l : List (Nat × Int)) : Mk → (Nat → Nat) → List (List Nat) → List (Mk × Mk × Int)
  | b, num, [] => l.flatMap fun q => [(b, .st q.1 (num q.1), wst b), (.st q.1 0, .start, 1 - q.2)]
  | b, num, [] :: hs => pairsH l b num hs
  | b, num, (c :: cr) :: hs => (b, .st c (num c), wst b) :: ((cr.flatMap fun d => [(.st c (num c), .st d (num d), 0), (.st d (num d), .st c (num c), 0)]) ++ pairsH l (.st c (num c)) (bump (c :: cr) num) hs)
def tmk (tm : Nat → Nat → Int) : Mk → Int
  | .start => 0
  | .st c n => tm c n
def Meets (tm : Nat → Nat → Int) (ps : List (Mk × Mk × Int)) : Prop := ∀ p ∈ ps, p.2.2 ≤ tmk tm p.2.1 - tmk tm p.1
structure ChOK (cs h : List Nat) : Prop where
  ne : h ≠ []
  is : cs.filter (fun c => decide (c ∈ h)) = h
theorem ChOK.sub {cs h : List Nat} (o : ChOK cs h) {c : Nat} (hc : c ∈ h) : c ∈ cs := by
  have h2 := hc
  rw [← o.is] at h2
  exact (List.mem_filter.mp h2).1
theorem chN_filter : ∀ {cs τ h : List Nat} {m : Nat}, τ.length = cs.length → (∀ i (hi : i < cs.length), τ.getD i 0 = m ↔ cs[i] ∈ h) → chN cs τ m = cs.filter (fun c => decide (c ∈ h))
  | [], [], h, m, _, _ => rfl
  | c :: cs, n :: τ, h, m, hl, hh => by
    have ih := chN_filter (cs := cs) (τ := τ) (h := h) (m := m) (by simpa using hl) fun i hi => by
      have := hh (i + 1) (by simpa using hi)
      simpa using this
    have h0 := hh 0 (by simp)
    simp only [List.getD_cons_zero, List.getElem_cons_zero] at h0
    unfold chN
    by_cases e : n = m
    · rw [if_pos e, List.filter_cons_of_pos (by simpa using h0.mp e), ih]
    · rw [if_neg e, List.filter_cons_of_neg (by simpa using fun z => e (h0.mpr z)), ih]
section
variable {l : List (Nat × Int)} {cs ps xs : List Nat} (W : Tw ps xs) (hn : cs.Nodup) (hl : cs.length = ps.length) (hc : l.map (·.1) = cs) (hq : l.map (fun q => q.2.toNat) = ps) (hpos : ∀ q ∈ l, 0 ≤ q.2)
include W hn hl hc hq hpos
end
end Law
namespace Law
open PySem DL G FW
abbrev MS := Mx (Mk × Mk)
section
variable {d4 d5 : D} {k u v : Nat} (x0 x1 x2 x3 x6 x10 : Sl)
end
end Law
namespace Law
open PySem DL G
theorem turns_ok (c : Nat) (k : Nat) (hk : k ≤ 1000) : ∃ n : Nat, n ≤ max 1 k ∧ (if (if (c : Int) < (k : Int) then (c : Int) else (k : Int)) > 1 then (if (c : Int) < (k : Int) then (c : Int) else (k : Int)) else 1) = (n : Int) := by
  refine ⟨max 1 (min k c), by omega, ?_⟩
  split <;> split <;> omega
noncomputable abbrev lwK (c : Int) : M (List D) := sRng range1 (sCons (cap (sCB maxF (oCons (sK (.int 1)) (oCons (sCB minF (oCons (sK (.int c)) (oCons (sCB lenF (oCons (sVar 0) oNil)) oNil))) oNil)))) sNil)
theorem k_it {nl : List D} {c n : Nat} {Γ : List Sl} (hn : n ≤ 1000) (h : (if (if (nl.length : Int) < (c : Int) then (nl.length : Int) else (c : Int)) > 1 then (if (nl.length : Int) < (c : Int) then (nl.length : Int) else (c : Int)) else 1) = (n : Int)) : lwK c (.dat (.lst nl) :: Γ) = some (.ok ((List.range n).map natI), .dat (.lst nl) :: Γ) :=
  sRng_to (ds := [.int n]) (by
    rw [← h]
    rfl) (range1_n (by omega))
def Idle (x : Sl) : Prop := x = .un ∨ ∃ d, x = .dat d
theorem Idle.keep {x : Sl} (h : Idle x) : keepD (some x) = x := by
  rcases h with rfl | ⟨d, rfl⟩ <;> rfl
end Law
namespace Law
open PySem DL G FW
def unL (d : D) : Nat := match d with
  | .str x => x.cps.toList.headD 0
  | _ => 0
theorem unL_L1 (c : Nat) : unL (L1 c) = c := rfl
end Law
namespace Law
open PySem DL G FW
def heardD (hs : List (List Nat)) : D := .tup (hs.map sD)
theorem pr_bells (l : List (Nat × Int)) : F_Tower_bells [towerD l] = some (.ok (.dat (bellsD l))) := by simp [F_Tower_bells, runDef_ap, c_Tower_bells, st0, bnd_ap, towerD]
end Law
namespace Law
open PySem DL G FW
def mIx (l : List (Nat × Int)) : Mk → Nat
  | .start => l.length
  | .st c _ => (l.map (·.1)).idxOf c
def perOf : List (Nat × Int) → Nat → Int
  | [], _ => 0
  | q :: l, c => if c = q.1 then q.2 else perOf l c
def mOff (l : List (Nat × Int)) : Mk → Int
  | .start => 0
  | .st c n => (n : Int) * perOf l c
def enD (p : D × Nat) : D := .tup [.int (p.2 : Nat), p.1]
def MkOK (l : List (Nat × Int)) : Mk → Prop
  | .start => True
  | .st c _ => c ∈ l.map (·.1)
end Law
namespace Law
open PySem DL G FW
def addE (S : MS) (u v : Nat) (w : Int) (c : List (Mk × Mk)) : MS := if better (S u v) w then put S u v (w, c) else S
def addP (l : List (Nat × Int)) (S : MS) (p : Mk × Mk × Int) : MS := addE S (mIx l p.1) (mIx l p.2.1) (p.2.2 + mOff l p.1 - mOff l p.2.1) [(p.1, p.2.1)]
def zeroS (n : Nat) : MS := fun u v => if u = v ∧ u < n then some (0, []) else none
def dirS (l : List (Nat × Int)) (ps : List (Mk × Mk × Int)) : MS := ps.foldl (addP l) (zeroS (l.length + 1))
section
variable (x1 x2 x3 x4 x8 x9 x10 x11 x12 x13 : Sl)
end
section
variable {d3 d4 : D} {u v : Nat} (x0 x1 x2 x5 x6 x7 x9 x11 x13 : Sl)
end
end Law
namespace Law
open PySem DL G FW
section
variable {l : List (Nat × Int)}
end
def hearS (l : List (Nat × Int)) (hs : List (List Nat)) : MS := dirS l (pairsH l .start (fun _ => 0) hs)
end Law
namespace Law
open PySem DL G FW
theorem filter_sub' : ∀ {a cs : List Nat}, a.Sublist cs → cs.Nodup → cs.filter (fun c => decide (c ∈ a)) = a
  | _, _, .slnil, _ => rfl
  | a, c :: cs, .cons _ h, hn => by
    rw [List.nodup_cons] at hn
    have : c ∉ a := fun z => hn.1 (h.subset z)
    rw [List.filter_cons_of_neg (by simpa using this), filter_sub' h hn.2]
  | c :: a, _ :: cs, .cons₂ _ h, hn => by
    rw [List.nodup_cons] at hn
    rw [List.filter_cons_of_pos (by simp)]
    congr 1
    have : cs.filter (fun d => decide (d ∈ c :: a)) = cs.filter fun d => decide (d ∈ a) := List.filter_congr fun d hd => by
      have : d ≠ c := fun z => hn.1 (z ▸ hd)
      simp [this]
    rw [this, filter_sub' h hn.2]
noncomputable abbrev icC' : M Rf := (sStr1 joinF (sK (.str "")) (sLc [2] (sIter (sVar 0)) (gSet 2) (sB (sBin inD (sVar 2) (sVar 1))) (sVar 2)))
theorem filt_L1' (p : Nat → Bool) (cs : List Nat) : (cs.map L1).filter (fun d => p (unL d)) = (cs.filter p).map L1 := by
  rw [List.filter_map]
  congr 1
theorem ic_ok' {cs a : List Nat} (hc : cs.length ≤ 100) : icC' [.dat (sD cs), .dat (sD a), .un] = some (.ok (.dat (sD (cs.filter fun c => decide (c ∈ a)))), [.dat (sD cs), .dat (sD a), .un]) := by
  have e := loopL_fmk (g := gSet 2) (ct := sB (sBin inD (sVar 2) (sVar 1))) (ce := cap (sVar 2)) (vs := [2]) (Γ0 := [.dat (sD cs), .dat (sD a), .un]) (p := fun d => decide (unL d ∈ a)) (f := id) (cs.map L1) [] (fun d hd => by
    obtain ⟨c, _, rfl⟩ := List.mem_map.mp hd
    have h := in_S c a
    generalize sD a = A at *
    generalize sD cs = C at *
    exact ⟨[.dat C, .dat A, .dat (L1 c)], [.dat C, .dat A, .dat (L1 c)], rfl, by rw [unL_L1]; simp [bnd_ap, h], fun _ => rfl, fun _ => ⟨_, rfl, rfl⟩⟩) (by rw [List.length_map, List.length_nil]; omega)
  rw [filt_L1' (fun c => decide (c ∈ a)), List.map_id, List.nil_append] at e
  have e2 := join_S (cs.filter fun c => decide (c ∈ a)) (by have := List.length_filter_le (fun c => decide (c ∈ a)) cs; omega)
  have e3 := seq_S cs (by omega)
  generalize (cs.filter fun c => decide (c ∈ a)) = f at *
  generalize f.map L1 = fL at *
  generalize cs.map L1 = cL at *
  generalize sD f = F at *
  generalize sD a = A at *
  generalize sD cs = C at *
  simp [bnd_ap, e3, e, e2]
theorem isi_S' (a : List Nat) : isiG [sD a, .ty "str"] = some (.dat (.bl true)) := by
  unfold sD
  simp [isiG, isiOF, tyN]
theorem chime_is {cs a : List Nat} (hc : cs.length ≤ 100) (o : ChOK cs a) : F_is_chime [sD cs, sD a] = some (.ok (.dat (.bl true))) := by
  have hle : a.length ≤ cs.length := by
    have := List.length_filter_le (fun c => decide (c ∈ a)) cs
    rwa [o.is] at this
  have e1 := isi_S' a
  have e2 := eq_S a []
  rw [decide_eq_false o.ne, ← e_empty] at e2
  have e3 := len_S a (by omega)
  have e4 := len_S cs (by omega)
  have e5 := ic_ok' (a := a) hc
  rw [o.is] at e5
  have e6 := eq_S a a
  rw [decide_eq_true rfl] at e6
  have e7 : ¬ (cs.length : Int) < (a.length : Int) := by omega
  generalize sD a = A at *
  generalize sD cs = C at *
  refine runDef_to (f := .rt (.dat (.bl true))) (Γ := [.dat C, .dat A, .un]) (Γ' := [.dat C, .dat A, .un]) rfl ?_ rfl
  refine sSeq_to (Γ' := [.dat C, .dat A, .un]) (by simp [bnd_ap, e1, e2, e3, e4, e7]) ?_
  exact sRet_to (sBin_dd e5 rfl e6)
noncomputable abbrev chkB (E : M Fl) : M Fl := (sIf (sNotT (sB (sCallF (argN 2 F_is_chime) (sCons (cap (sOne (fldF k_Tower "own_names") (sVar 0))) (sCons (cap (sVar 3)) sNil))))) E sSkip)
theorem chk_turn {E : M Fl} {tw N c : D} (e1 : fldF k_Tower "own_names" tw = some (.dat N)) (e2 : F_is_chime [N, c] = some (.ok (.dat (.bl true)))) (x1 x2 : Sl) : chkB E [.dat tw, x1, x2, .dat c] = some (.ok .nx, [.dat tw, x1, x2, .dat c]) := by
  simp [bnd_ap, e1, e2]
theorem chk_loop {E : M Fl} {tw N : D} (e1 : fldF k_Tower "own_names" tw = some (.dat N)) (x1 : Sl) : ∀ (ds : List D) (k : Nat) (x2 x3 : Sl), (∀ d ∈ ds, F_is_chime [N, d] = some (.ok (.dat (.bl true)))) → ∃ y2 y3, loopF (gTupD 2 (gMore (gSet 2) (gMore (gSet 3) gNone))) (chkB E) ((ds.zipIdx k).map enD) [.dat tw, x1, x2, x3] = some (.ok .nx, [.dat tw, x1, y2, y3])
  | [], k, x2, x3, h => ⟨x2, x3, rfl⟩
  | d :: ds, k, x2, x3, h => by
    obtain ⟨y2, y3, ih⟩ := chk_loop (E := E) e1 x1 ds (k + 1) (.dat (.int (k : Nat))) (.dat d) fun z hz => h z (List.mem_cons_of_mem _ hz)
    exact ⟨y2, y3, loopF_nx (Γ1 := [.dat tw, x1, .dat (.int (k : Nat)), .dat d]) rfl (chk_turn e1 (h d (List.mem_cons_self ..)) x1 _) ih⟩
noncomputable abbrev chkT : M Bool := (sOrT (sNotT (sB (sCB isiG (oCons (sVar 1) (oCons (sK (.ty "tuple")) oNil))))) (sB (sBin gtD (sCB lenF (oCons (sVar 1) oNil)) (sOne (conF k_Tower "MAX_HEARD" (.int 200)) (sVar 0)))))
theorem chk_t {tw : D} {hs : List D} (i : isInsB k_Tower "MAX_HEARD" tw = true) (h : hs.length ≤ 200) : chkT [.dat tw, .dat (.tup hs), .un, .un] = some (.ok false, [.dat tw, .dat (.tup hs), .un, .un]) := by
  have e1 : isiG [.tup hs, .ty "tuple"] = some (.dat (.bl true)) := by simp [isiG, isiOF, tyN]
  have e2 : conF k_Tower "MAX_HEARD" (.int 200) tw = some (.dat (.int 200)) := by unfold conF; rw [if_pos i]
  have e3 : ¬ (200 : Int) < (hs.length : Int) := by omega
  simp [bnd_ap, e1, e2, e3]
theorem isMax_tower (l : List (Nat × Int)) : isInsB k_Tower "MAX_HEARD" (towerD l) = true := by
  show (decide (k_Tower = k_Tower) && !(["own_bells", "own_names", "own_periods", "own_round"] : List Str).contains "MAX_HEARD") = true
  decide +kernel
theorem fld_names (l : List (Nat × Int)) : fldF k_Tower "own_names" (towerD l) = some (.dat (sD (l.map (·.1)))) := by
  show (if k_Tower = k_Tower then _ else none) = _
  rw [if_pos rfl]
  simp; rfl
theorem check_run {tw N : D} {hs : List D} (i : isInsB k_Tower "MAX_HEARD" tw = true) (h : hs.length ≤ 200) (e1 : fldF k_Tower "own_names" tw = some (.dat N)) (hc : ∀ d ∈ hs, F_is_chime [N, d] = some (.ok (.dat (.bl true)))) : F_Tower_check_heard [tw, .tup hs] = some (.ok (.dat .non)) := by
  obtain ⟨y2, y3, e⟩ := chk_loop (E := _) e1 (.dat (.tup hs)) hs 0 .un .un hc
  refine runDef_to (f := .nx) (Γ := [.dat tw, .dat (.tup hs), .un, .un]) (Γ' := [.dat tw, .dat (.tup hs), y2, y3]) rfl ?_ rfl
  refine sSeq_to (sIf_f (chk_t i h) rfl) ?_
  exact sFor_to (sRng_to (ds := [.tup hs]) (xs := (hs.zipIdx 0).map enD) rfl rfl) e
theorem check_data {l : List (Nat × Int)} (b : BellsT l) {hs : List (List Nat)} (ho : ∀ h ∈ hs, ChOK (l.map (·.1)) h) (hl : hs.length ≤ 200) : F_Tower_check_heard [towerD l, heardD hs] = some (.ok (.dat .non)) := by
  have hc : (l.map (·.1)).length ≤ 100 := by rw [List.length_map]; have := b.hi; omega
  refine check_run (isMax_tower l) (by rw [List.length_map]; exact hl) (fld_names l) fun d hd => ?_
  obtain ⟨h, hh, rfl⟩ := List.mem_map.mp hd
  exact chime_is hc (ho h hh)
end Law
namespace Law
open PySem DL G FW
abbrev Heard (l : List (Nat × Int)) (hs : List (List Nat)) : Prop := ∀ h ∈ hs, ChOK (l.map (·.1)) h
theorem nd_bells {l : List (Nat × Int)} (b : BellsT l) : (l.map (·.1)).Nodup := b.asc.imp fun {a c} h => by omega
def val (S : MS) (u v : Nat) : Int := match S u v with
  | some e => e.1
  | none => 0
section
variable {l : List (Nat × Int)} {hs : List (List Nat)} {S : MS}
end
end Law
namespace Law
open PySem DL G FW
theorem isChk_tower (l : List (Nat × Int)) : isInsB k_Tower "check_heard" (towerD l) = true := by
  show (decide (k_Tower = k_Tower) && !(["own_bells", "own_names", "own_periods", "own_round"] : List Str).contains "check_heard") = true
  decide +kernel
end Law
namespace Law
open PySem DL G FW
section
variable {l : List (Nat × Int)} (b : BellsT l) {hs : List (List Nat)} (ho : Heard l hs)
include b ho
end
section
variable {l : List (Nat × Int)} (b : BellsT l) {hs : List (List Nat)} (ho : Heard l hs)
include b ho
variable {S : MS} (e : close (l.length + 1) (hearS l hs) = .ok S) {p r : Mk} (hp : MkOK l p) (hr : MkOK l r)
include e hp hr
end
end Law
namespace Law
open PySem DL G FW
theorem chime_chok {l : List (Nat × Int)} (b : BellsT l) {rs : List Nat} (h : RowP (perN l) rs) (k : Nat) : ChOK (l.map (·.1)) (chime (l.map (·.1)) (perN l) rs k) := by
  have W := h.tw b
  have hl : (l.map (·.1)).length = (perN l).length := by rw [List.length_map, len_pers]
  refine ⟨chime_ne b h k, ?_⟩
  refine (chN_filter (by rw [st_len W k, hl]) fun i hi => ?_).symm
  exact hits_mem W (nd_bells b) hl k (by omega)
def songH (l : List (Nat × Int)) (rs : List Nat) (n : Nat) : List (List Nat) := (List.range n).map fun k => chime (l.map (·.1)) (perN l) rs k
theorem songH_heard {l : List (Nat × Int)} (b : BellsT l) {rs : List Nat} (h : RowP (perN l) rs) (n : Nat) : Heard l (songH l rs n) := fun g hg => by
  obtain ⟨k, _, rfl⟩ := List.mem_map.mp hg
  exact chime_chok b h k
theorem songH_data (l : List (Nat × Int)) (rs : List Nat) (n : Nat) : D.tup (chimesD l rs n) = heardD (songH l rs n) := by
  unfold chimesD heardD songH
  rw [List.map_map]; rfl
theorem songH_len (l : List (Nat × Int)) (rs : List Nat) (n : Nat) : (songH l rs n).length = n := by unfold songH; rw [List.length_map, List.length_range]
end Law
namespace Law
open PySem DL G
end Law
namespace Law
open PySem DL G
end Law
namespace Law
open PySem DL G
theorem rowP_snoc : ∀ {ps : List Nat} {p : Nat} {r : List Nat}, RowP (ps ++ [p]) r ↔ ∃ r0 x, r = r0 ++ [x] ∧ RowP ps r0 ∧ x < p
  | [], p, [] => by
    constructor
    · intro h; exact h.elim
    · rintro ⟨r0, x, h, _⟩
      cases r0 <;> cases h
  | [], p, [x] => by
    constructor
    · intro h; exact ⟨[], x, rfl, trivial, h.1⟩
    · rintro ⟨r0, y, h, h1, h2⟩
      cases r0 with
      | nil => cases h; exact ⟨h2, trivial⟩
      | cons => exact h1.elim
  | [], p, x :: y :: r => by
    constructor
    · intro h; exact h.2.elim
    · rintro ⟨r0, z, h, h1, h2⟩
      cases r0 with
      | nil => cases h
      | cons => exact h1.elim
  | q :: ps, p, [] => by
    constructor
    · intro h; exact h.elim
    · rintro ⟨r0, x, h, _⟩
      cases r0 <;> cases h
  | q :: ps, p, y :: r => by
    have ih := rowP_snoc (ps := ps) (p := p) (r := r)
    constructor
    · intro h
      obtain ⟨r0, x, h1, h2, h3⟩ := ih.mp h.2
      exact ⟨y :: r0, x, by rw [h1]; rfl, ⟨h.1, h2⟩, h3⟩
    · rintro ⟨r0, x, h, h1, h2⟩
      cases r0 with
      | nil => exact h1.elim
      | cons z r0 =>
        rw [List.cons_append, List.cons.injEq] at h
        obtain ⟨rfl, h⟩ := h
        exact ⟨h1.1, ih.mpr ⟨r0, x, h, h1.2, h2⟩⟩
def extR (p : Nat) (r : List Nat) : List (List Nat) := (List.range p).map fun x => r ++ [x]
def Full (ps : List Nat) (rows : List (List Nat)) : Prop := ∀ r, r ∈ rows ↔ RowP ps r
theorem Full.step {ps : List Nat} {rows : List (List Nat)} (h : Full ps rows) (p : Nat) : Full (ps ++ [p]) (rows.flatMap (extR p)) := fun r => by
  rw [List.mem_flatMap, rowP_snoc]
  unfold extR
  constructor
  · rintro ⟨r0, h1, h2⟩
    obtain ⟨x, hx, rfl⟩ := List.mem_map.mp h2
    exact ⟨r0, x, rfl, (h r0).mp h1, List.mem_range.mp hx⟩
  · rintro ⟨r0, x, rfl, h1, h2⟩
    exact ⟨r0, (h r0).mpr h1, List.mem_map.mpr ⟨x, List.mem_range.mpr h2, rfl⟩⟩
end Law
namespace Law
open PySem DL G FW
end Law
namespace Law
open PySem DL G
end Law
namespace Law
open PySem DL G
theorem sortedF_strs (xs : List Str) : sortedF [.lst (xs.map .str)] = some (.own (.lst ((xs.mergeSort strLe).map .str))) := by
  have h : sortsB (xs.map .str) = true := by
    unfold sortsB
    simp only [Bool.and_eq_true, Bool.or_eq_true, List.all_eq_true, List.mem_map, forall_exists_index, and_imp, forall_apply_eq_imp_iff₂]
    exact ⟨⟨fun a _ => rfl, fun a _ b _ => rfl⟩, .inr fun a _ => trivial⟩
  show (if _ then _ else _) = _
  rw [if_pos h, sortD_strs]
def addN (c : Nat) (ss : List (List Nat)) : List (List Nat) := ss ++ ss.map (· ++ [c])
def unD : D → List Nat
  | .str x => x.cps.toList
  | _ => []
theorem unD_S (a : List Nat) : unD (sD a) = a := mkS_list a
def Parts (cs : List Nat) (ss : List (List Nat)) : Prop := ∃ rest, ss = [] :: rest ∧ ∀ a ∈ rest, a ≠ [] ∧ a.Sublist cs
theorem Parts.step {cs : List Nat} {ss : List (List Nat)} (h : Parts cs ss) (c : Nat) : Parts (cs ++ [c]) (addN c ss) := by
  obtain ⟨rest, rfl, h⟩ := h
  refine ⟨rest ++ [c] :: rest.map (· ++ [c]), by simp [addN], fun a ha => ?_⟩
  rcases List.mem_append.mp ha with ha | ha
  · exact ⟨(h a ha).1, (h a ha).2.trans (List.sublist_append_left _ _)⟩
  · rcases List.mem_cons.mp ha with rfl | ha
    · exact ⟨by simp, List.sublist_append_right _ _⟩
    · obtain ⟨d, hd, rfl⟩ := List.mem_map.mp ha
      exact ⟨by simp, (h d hd).2.append (List.Sublist.refl _)⟩
end Law
namespace Law
open PySem DL G
noncomputable abbrev seB : M Fl := (sSet 1 (sBin addD (sVar 1) (sLc [4] (sIter (sVar 1)) (gSet 4) (DL.ret true) (sBin addD (sVar 4) (sVar 2)))))
theorem se_turn {c : Nat} {ss : List (List Nat)} (hl : ss.length ≤ 100) (hs : ∀ a ∈ ss, a.length ≤ 100) (x0 x3 : Sl) : seB [x0, .own (.lst (ss.map sD)), .dat (L1 c), x3, .un] = some (.ok .nx, [x0, .own (.lst ((addN c ss).map sD)), .dat (L1 c), x3, .un]) := by
  have e := loopL_map (g := gSet 4) (ce := cap (sBin addD (sVar 4) (sVar 2))) (vs := [4]) (Γ0 := [x0, .dat (.lst (ss.map sD)), .dat (L1 c), x3, .un]) (f := fun d => sD (unD d ++ [c])) (ss.map sD) (fun d hd => by
    obtain ⟨a, ha, rfl⟩ := List.mem_map.mp hd
    refine ⟨[x0, .dat (.lst (ss.map sD)), .dat (L1 c), x3, .dat (sD a)], [x0, .dat (.lst (ss.map sD)), .dat (L1 c), x3, .dat (sD a)], rfl, ?_, rfl⟩
    rw [unD_S]
    have := add_S a [c] (by have := hs a ha; simp; omega)
    rw [← L1_is] at this
    generalize ss.map sD = S at *
    simp [bnd_ap, this]) (by rw [List.length_map]; omega)
  have e2 : (addN c ss).map sD = ss.map sD ++ (ss.map sD).map fun d => sD (unD d ++ [c]) := by
    unfold addN
    rw [List.map_append, List.map_map, List.map_map]
    refine congrArg (ss.map sD ++ ·) ?_
    exact List.map_congr_left fun a _ => by show sD (a ++ [c]) = sD (unD (sD a) ++ [c]); rw [unD_S]
  rw [e2]
  have e3 : (ss.map sD).length + ((ss.map sD).map fun d => sD (unD d ++ [c])).length ≤ 16777216 := by rw [List.length_map, List.length_map, List.length_map]; omega
  generalize (ss.map sD).map (fun d => sD (unD d ++ [c])) = T at *
  generalize ss.map sD = S at *
  simp [bnd_ap, e, e3]
theorem sets_run {B : D} {bs S : List D} {T : D} {y2 y3 : Sl} (hb : seqI B = some bs) (e : loopF (gTupD 2 (gMore (gSet 2) (gMore (gSet 3) gNone))) seB bs [.dat B, .own (.lst [.str ""]), .un, .un, .un] = some (.ok .nx, [.dat B, .own (.lst (.str "" :: S)), y2, y3, .un])) (hs : sortedF [.lst S] = some (.own T)) : F_law_sets [B] = some (.ok (.own T)) := by
  refine runDef_to (f := .rt (.own T)) (Γ := [.dat B, .un, .un, .un, .un]) (Γ' := [.dat B, .own (.lst (.str "" :: S)), y2, y3, .un]) rfl ?_ rfl
  refine sSeq_to (Γ' := [.dat B, .own (.lst [.str ""]), .un, .un, .un]) (by simp [bnd_ap, mkLst_ok]) ?_
  refine sSeq_to (sFor_to (Γ1 := [.dat B, .own (.lst [.str ""]), .un, .un, .un]) (ds := bs) (by simp [bnd_ap, hb]) e) ?_
  have hc := cut_from (D.str "" :: S) (v := 1) (by decide)
  have hc' : cutD (D.str "" :: S) (some 1) none = S := hc
  simp [bnd_ap, hc', hs]
end Law
namespace Law
open PySem DL G FW
section
variable {s B H L X A A' C E R : D} {a : Int}
end
theorem Src.mono {m m' : Nat} {s : D} (h : Src m s) (hm : m ≤ m') : Src m' s := by
  obtain ⟨x, y, z, rfl, z1, z2⟩ := h
  exact ⟨x, y, z, rfl, z1, by omega⟩
end Law
namespace Law
open PySem DL G FW
end Law
namespace Law
open PySem DL G
theorem loopL_fg {α : Type} {g : D → M Unit} {ct : M Bool} {ce : M D} {vs : List Nat} {Γ0 : List Sl} {p : α → Bool} {v f : α → D} : ∀ (xs : List α) (acc : List D), (∀ x ∈ xs, ∃ Γa Γb, g (v x) Γ0 = some (.ok (), Γa) ∧ ct Γa = some (.ok (p x), Γb) ∧ (p x = false → wipeG Γb vs = Γ0) ∧ (p x = true → ∃ Γc, ce Γb = some (.ok (f x), Γc) ∧ wipeG Γc vs = Γ0)) → acc.length + xs.length ≤ 16777216 →
    loopL g ct ce vs (xs.map v) acc Γ0 = some (.ok (acc ++ (xs.filter p).map f), Γ0)
  | [], acc, h, hl => by simp [loopL]
  | d :: ds, acc, h, hl => by
    obtain ⟨Γa, Γb, h1, h2, h3, h4⟩ := h d (by simp)
    simp only [List.length_cons] at hl
    cases hp : p d with
    | false =>
      have ih := loopL_fg (p := p) (v := v) (f := f) ds acc (fun e he => h e (by simp [he])) (by omega)
      rw [List.filter_cons_of_neg (by simp [hp]), ← ih]
      rw [hp] at h2
      simp only [List.map_cons, loopL, h1, h2, h3 hp]
    | true =>
      obtain ⟨Γc, h5, h6⟩ := h4 hp
      have ih := loopL_fg (p := p) (v := v) (f := f) ds (acc ++ [f d]) (fun e he => h e (by simp [he])) (by rw [List.length_append, List.length_singleton]; omega)
      have e : acc ++ (f d :: (ds.filter p).map f) = acc ++ [f d] ++ (ds.filter p).map f := by simp
      rw [List.filter_cons_of_pos hp, show (d :: ds.filter p).map f = f d :: (ds.filter p).map f from rfl, e, ← ih]
      rw [hp] at h2
      simp only [List.map_cons, loopL, h1, h2, h5, h6]
      rw [if_pos (by show acc.length < 16777216; omega)]
end Law
namespace Law
open PySem DL G
theorem great_ok {s : D} {m : Nat} (hs : Src m s) (hm : m < 1000000000) : ∃ s' l, Bells 4 5 30 l ∧ Src (m + 12) s' ∧ F_law_great_bells s [] = some (.ok (.dat (bK (l.map bellD))), s') := by
  obtain ⟨s1, cs, hs1, hp, e1⟩ := names_ok hs (by omega)
  obtain ⟨r, s2, e2, r0, r1, hs2⟩ := next_ok (n := 2) hs1 (by omega) (by omega) (by omega)
  obtain ⟨f1, f2, f3⟩ := firstN_ok hp (n := (4 + r).toNat) (by omega)
  have c1 := cut_to (cs.map L1) (v := 4 + r) (by omega)
  have c2 := srt cs (4 + r).toNat
  generalize firstN cs (4 + r).toNat = ns at *
  obtain ⟨s', ps, h1, h2, h3, h4⟩ := great_loop ns [] s2 (.lst (ns.map L1)) (m + 6 + 1) hs2 (by omega) (by omega) (by simp; omega)
  obtain ⟨a, b, c, rfl, hb, hb2⟩ := h3
  refine ⟨_, ns.zip ps, bells_of h1 (by omega) (by omega) f2 f3 h2, ⟨a, b, c, rfl, hb, by omega⟩, ?_⟩
  have hz := bells_na (bells_of (lo := 4) (hi := 5) (per := 30) h1 (by omega) (by omega) f2 f3 h2) (by omega)
  have ht := tupB_ok hz
  generalize bK ((ns.zip ps).map bellD) = BK at *
  simp [F_law_great_bells, runDefM_ap, c_law_great_bells, st0, bnd_ap, listF_letters, e1, e2, c1, c2]
  rw [h4]
  simp [ht]
end Law
namespace Law
open PySem DL G
def c1 (c : Nat) : Str := ⟨#[c]⟩
theorem join_cons (s x y : Str) (r : List Str) : Str.join s (x :: y :: r) = x ++ s ++ Str.join s (y :: r) := rfl
theorem join_sing (s x : Str) : Str.join s [x] = x := rfl
theorem str_ext {a b : Str} (h : a.cps.toList = b.cps.toList) : a = b := Str.ext' (Array.toList_inj.mp h)
theorem split_ne (x : Str) (c : Nat) : Txt.split x (c1 c) ≠ [] := by
  unfold Txt.split
  split
  · simp
  · split
    · simp
    · intro z
      have e := congrArg List.length z
      rw [PySem.length_partsBetween] at e
      simp at e
theorem join_is (s : Str) (ps : List Str) : Txt.join s ps = Str.join s ps := StrLaws.glued_eq_join s ps
theorem sep_nl : ("\n" : Str) = c1 10 := by decide +kernel
theorem sep_sp : (" " : Str) = c1 32 := by decide +kernel
theorem splitF_ok {a : Str} (h : a.length ≤ 16000000) (c : Nat) : splitF (.str a) (.str (c1 c)) = some (.own (.lst ((Txt.split a (c1 c)).map .str))) := if_pos ⟨rfl, h⟩
end Law
namespace Law
open PySem DL G
noncomputable abbrev icC : M Rf := (sStr1 joinF (sK (.str "")) (sLc [2] (sIter (sVar 0)) (gSet 2) (sB (sBin inD (sVar 2) (sVar 1))) (sVar 2)))
def unQ : D → Nat
  | .str x => x.cps.toList.headD 0
  | _ => 0
theorem unL_1 (c : Nat) : unQ (L1 c) = c := rfl
theorem filt_L1 (p : Nat → Bool) (cs : List Nat) : (cs.map L1).filter (fun d => p (unQ d)) = (cs.filter p).map L1 := by
  rw [List.filter_map]
  congr 1
theorem ic_ok {cs a : List Nat} (hc : cs.length ≤ 100) : icC [.dat (sD cs), .dat (sD a), .un] = some (.ok (.dat (sD (cs.filter fun c => decide (c ∈ a)))), [.dat (sD cs), .dat (sD a), .un]) := by
  have e := loopL_fmk (g := gSet 2) (ct := sB (sBin inD (sVar 2) (sVar 1))) (ce := cap (sVar 2)) (vs := [2]) (Γ0 := [.dat (sD cs), .dat (sD a), .un]) (p := fun d => decide (unQ d ∈ a)) (f := id) (cs.map L1) [] (fun d hd => by
    obtain ⟨c, _, rfl⟩ := List.mem_map.mp hd
    have h := in_S c a
    generalize sD a = A at *
    generalize sD cs = C at *
    exact ⟨[.dat C, .dat A, .dat (L1 c)], [.dat C, .dat A, .dat (L1 c)], rfl, by rw [unL_1]; simp [bnd_ap, h], fun _ => rfl, fun _ => ⟨_, rfl, rfl⟩⟩) (by rw [List.length_map, List.length_nil]; omega)
  rw [filt_L1 (fun c => decide (c ∈ a)), List.map_id, List.nil_append] at e
  have e2 := join_S (cs.filter fun c => decide (c ∈ a)) (by have := List.length_filter_le (fun c => decide (c ∈ a)) cs; omega)
  have e3 := seq_S cs (by omega)
  generalize (cs.filter fun c => decide (c ∈ a)) = f at *
  generalize f.map L1 = fL at *
  generalize cs.map L1 = cL at *
  generalize sD f = F at *
  generalize sD a = A at *
  generalize sD cs = C at *
  simp [bnd_ap, e3, e, e2]
theorem isi_S (a : List Nat) : isiG [sD a, .ty "str"] = some (.dat (.bl true)) := by
  unfold sD
  simp [isiG, isiOF, tyN]
end Law
namespace Law
open PySem DL
theorem ix_mem {ds : List D} {i : Int} (h0 : 0 ≤ i) (h1 : i < ds.length) : ∃ d, d ∈ ds ∧ ixD (.lst ds) (.int i) = some (.dat d) := by
  obtain ⟨k, rfl⟩ := Int.eq_ofNat_of_zero_le h0
  have hk : k < ds.length := by omega
  refine ⟨ds[k], List.getElem_mem _, ?_⟩
  show (L2.atI ds (k : Int)).map Rf.dat = _
  rw [atI_nat, List.getElem?_eq_getElem hk]; rfl
end Law
namespace Law
open PySem DL G
end Law
namespace Law
open PySem DL G FW
end Law
namespace Law
open PySem DL G FW
end Law
namespace Law
open PySem DL G FW
end Law
namespace Law
open PySem DL G FW
end Law
namespace Law
open PySem DL G FW
end Law
namespace Law
open PySem DL G
end Law
namespace Law
open PySem DL G FW
end Law
namespace Law
open PySem DL G FW
end Law
namespace Law
open PySem DL G FW
end Law
namespace Law
open PySem DL G FW
end Law
namespace Law
open PySem DL G FW
@[simp] theorem sFmt_ap (c : M Rf) {Γ : List Sl} : sFmt c Γ = bnd c fmtA Γ := rfl
theorem fmtA_str {x : Str} (h : x.length ≤ 1000) (Γ : List Sl) : DL.fmtA (Rf.dat (.str x)) Γ = some (.ok (.dat (.str x)), Γ) := by
  show (if x.length ≤ big then (ret (Rf.dat (.str x)) : M Rf) else fail) Γ = _
  rw [if_pos (Nat.le_trans h (by decide))]; rfl
theorem fmtA_int {i : Int} (h : i.natAbs ≤ 1000) (Γ : List Sl) : DL.fmtA (Rf.dat (.int i)) Γ = some (.ok (.dat (.str (toString i))), Γ) := by
  show (if i.natAbs.log2 < 1920 then (ret (Rf.dat (.str (toString i))) : M Rf) else fail) Γ = _
  rw [if_pos (Nat.lt_of_le_of_lt (Nat.log2_le_self _) (by omega))]; rfl
theorem num_len : ∀ n : Nat, n < 1000 → ((toString (n : Int) : String) : Str).length ≤ 3 := by decide +kernel
theorem num_len' {i : Int} (h0 : 0 ≤ i) (h1 : i < 1000) : ((toString i : String) : Str).length ≤ 3 := by
  obtain ⟨n, rfl⟩ := Int.eq_ofNat_of_zero_le h0
  exact num_len n (by omega)
theorem add_str {x y : Str} (h : x.length + y.length ≤ 1000000) : addD (.str x) (.str y) = some (.dat (.str (x ++ y))) := by
  rw [addD_str, if_pos (Nat.le_trans h (by decide))]
theorem join_ok (a : Str) (ys : List Str) (h : (ys.map (·.length)).sum + ys.length * a.length ≤ 1000000) (d : D) (hd : d = .lst (ys.map .str) ∨ d = .tup (ys.map .str)) : joinF (.str a) d = some (.dat (.str (Txt.join a ys))) := by
  have e : joinD a (ys.map .str) = some (.dat (.str (Txt.join a ys))) := by
    show (strsD (ys.map .str)).bind _ = _
    rw [strsD_map]
    show (if _ then _ else _) = _
    rw [if_pos (Nat.le_trans h (by decide))]
  rcases hd with rfl | rfl <;> exact e
theorem sum_le {ys : List Str} {n : Nat} (h : ∀ y ∈ ys, y.length ≤ n) : (ys.map (·.length)).sum ≤ ys.length * n := by
  induction ys with
  | nil => exact Nat.zero_le _
  | cons y ys ih =>
    have h1 := h y (by simp)
    have h2 := ih fun z hz => h z (by simp [hz])
    rw [List.map_cons, List.sum_cons, List.length_cons, Nat.succ_mul]
    omega
theorem fs_step {acc y : Str} {cs : List (M Rf)} {c : M Rf} {Γ Γ' : List Sl} {R : RR Rf} (h : c Γ = some (.ok (.dat (.str y)), Γ')) (hl : acc.length + y.length ≤ 1000000) (r : fsJ (acc ++ y) cs Γ' = R) : fsJ acc (c :: cs) Γ = R := by
  show bnd c _ Γ = _
  rw [bnd_to h]
  show (if (acc ++ y).length ≤ big then fsJ (acc ++ y) cs else fail) Γ' = _
  rw [if_pos (by rw [Str.length_append]; exact Nat.le_trans hl (by decide))]
  exact r
def bellS (q : Nat × Int) : Str := (⟨#[q.1]⟩ : Str) ++ " " ++ toString q.2
theorem per_len {i : Int} (h : 1 ≤ i ∧ i ≤ 30) : ((toString i : String) : Str).length ≤ 3 := num_len' (by omega) (by omega)
theorem bell_len {q : Nat × Int} (h : 1 ≤ q.2 ∧ q.2 ≤ 30) : (bellS q).length ≤ 5 := by
  unfold bellS
  rw [Str.length_append, Str.length_append]
  have := per_len h
  have z : (" " : Str).length = 1 := by decide
  have z1 : (⟨#[q.1]⟩ : Str).length = 1 := rfl
  omega
theorem tt_elt {q : Nat × Int} (h : 1 ≤ q.2 ∧ q.2 ≤ 30) (x0 : Sl) : cap (sFs [(sFmt (sVar 1)), (sK (.str " ")), (sFmt (sVar 2))]) [x0, .dat (L1 q.1), .dat (.int q.2)] = some (.ok (.str (bellS q)), [x0, .dat (L1 q.1), .dat (.int q.2)]) := by
  have z : (" " : Str).length = 1 := by decide
  have z1 : (⟨#[q.1]⟩ : Str).length = 1 := rfl
  have pl := per_len h
  have z2 : (((⟨#[q.1]⟩ : Str) ++ (" " : Str)) : Str).length = 2 := by rw [Str.length_append, z, z1]
  have f1 : (sFmt (sVar 1)) [x0, .dat (L1 q.1), .dat (.int q.2)] = some (.ok (.dat (.str (⟨#[q.1]⟩ : Str))), [x0, .dat (L1 q.1), .dat (.int q.2)]) := fmtA_str (x := (⟨#[q.1]⟩ : Str)) (by rw [z1]; decide) [x0, .dat (L1 q.1), .dat (.int q.2)]
  have f2 : (sFmt (sVar 2)) [x0, .dat (L1 q.1), .dat (.int q.2)] = some (.ok (.dat (.str (toString q.2))), [x0, .dat (L1 q.1), .dat (.int q.2)]) := fmtA_int (i := q.2) (by omega) [x0, .dat (L1 q.1), .dat (.int q.2)]
  have e : (sFs [(sFmt (sVar 1)), (sK (.str " ")), (sFmt (sVar 2))]) [x0, .dat (L1 q.1), .dat (.int q.2)] = some (.ok (.dat (.str (bellS q))), [x0, .dat (L1 q.1), .dat (.int q.2)]) := by
    show fsJ Str.empty _ _ = _
    refine fs_step f1 (by show 0 + 1 ≤ 1000000; decide) ?_
    rw [Str.empty_append]
    refine fs_step (y := " ") rfl (by rw [z, z1]; decide) ?_
    exact fs_step f2 (by rw [z2]; omega) rfl
  show bnd (sFs [(sFmt (sVar 1)), (sK (.str " ")), (sFmt (sVar 2))]) _ _ = _
  rw [bnd_to e]; rfl
def textS (l : List (Nat × Int)) : Str := Txt.join "\n" (l.map bellS)
theorem text_join {l : List (Nat × Int)} (hl : l.length ≤ 5) (hp : ∀ q ∈ l, 1 ≤ q.2 ∧ q.2 ≤ 30) : joinF (.str "\n") (.lst ((l.map bellS).map .str)) = some (.dat (.str (textS l))) := by
  refine join_ok _ _ ?_ _ (.inl rfl)
  have h2 := sum_le (ys := l.map bellS) (n := 5) fun y hy => by
    obtain ⟨q, hq, rfl⟩ := List.mem_map.mp hy
    exact bell_len (hp q hq)
  have z : ("\n" : Str).length = 1 := by decide
  rw [z]
  rw [List.length_map] at h2 ⊢
  omega
theorem tt_run {T B : D} {Z Y : List D} {j : Str} (i : isInsB k_Tower "" T = true) (e1 : F_Tower_bells [T] = some (.ok (.dat B))) (z : seqI B = some Z) (lp : loopL (gTupD 2 (gMore (gSet 1) (gMore (gSet 2) gNone))) (ret true) (cap (sFs [(sFmt (sVar 1)), (sK (.str " ")), (sFmt (sVar 2))])) [1, 2] Z [] [.dat T, .un, .un] = some (.ok Y, [.dat T, .un, .un])) (e2 : joinF (.str "\n") (.lst Y) = some (.dat (.str j))) : F_tower_text [T] = some (.ok (.dat (.str j))) := by
  have q : (sLc [1, 2] (sIter (sProp 6 F_Tower_bells (sVar 0))) (gTupD 2 (gMore (gSet 1) (gMore (gSet 2) gNone))) (ret true) (sFs [(sFmt (sVar 1)), (sK (.str " ")), (sFmt (sVar 2))])) [.dat T, .un, .un] = some (.ok (.own (.lst Y)), [.dat T, .un, .un]) := sLc_to (Γ1 := [.dat T, .un, .un]) (ds := Z) (by simp [bnd_ap, i, e1, z]) lp
  refine runDef_to (f := .rt (.dat (.str j))) (Γ := [.dat T, .un, .un]) (Γ' := [.dat T, .un, .un]) rfl ?_ rfl
  unfold c_tower_text
  generalize (sLc [1, 2] (sIter (sProp 6 F_Tower_bells (sVar 0))) (gTupD 2 (gMore (gSet 1) (gMore (gSet 2) gNone))) (ret true) (sFs [(sFmt (sVar 1)), (sK (.str " ")), (sFmt (sVar 2))])) = LC at *
  generalize D.lst Y = YY at *
  simp [bnd_ap, q, e2]
theorem tower_text_ok {l : List (Nat × Int)} (hl : l.length ≤ 5) (hp : ∀ q ∈ l, 1 ≤ q.2 ∧ q.2 ≤ 30) : F_tower_text [towerD l] = some (.ok (.dat (.str (textS l)))) := by
  have e := loopL_fg (g := (gTupD 2 (gMore (gSet 1) (gMore (gSet 2) gNone)))) (ct := ret true) (ce := cap (sFs [(sFmt (sVar 1)), (sK (.str " ")), (sFmt (sVar 2))])) (vs := [1, 2]) (Γ0 := [.dat (towerD l), .un, .un]) (p := fun _ : Nat × Int => true) (v := fun q => bellD q) (f := fun q => .str (bellS q)) l [] (fun q hq =>
    ⟨[.dat (towerD l), .dat (L1 q.1), .dat (.int q.2)], _, rfl, rfl, (fun z => by cases z), fun _ => ⟨_, tt_elt (hp q hq) _, rfl⟩⟩) (by rw [List.length_nil]; omega)
  have ft : l.filter (fun _ : Nat × Int => true) = l := List.filter_eq_self.mpr fun _ _ => rfl
  rw [ft, List.nil_append] at e
  have j := text_join hl hp
  rw [List.map_map] at j
  exact tt_run (isIns_tower l) (pr_bells l) rfl e j
theorem ne_tup (hs : List (List Nat)) : neD (.tup (hs.map sD)) (.tup []) = some (.dat (.bl (!hs.isEmpty))) := by
  have ok : okD 60 (.tup (hs.map sD)) = true := List.all_eq_true.mpr fun d hd => by
    obtain ⟨p, _, rfl⟩ := List.mem_map.mp hd
    rfl
  show (if (okD 60 (.tup (hs.map sD)) && okD 60 (.tup [])) = true then some (Rf.dat (.bl (!eqL (eqF 59) (hs.map sD) []))) else none) = _
  rw [ok]
  cases hs <;> rfl
theorem ht_run {T H : D} {v : Bool} {j : Str} (i : isInsB k_Tower "check_heard" T = true) (e1 : F_Tower_check_heard [T, H] = some (.ok (.dat .non))) (e2 : neD H (.tup []) = some (.dat (.bl v))) (e3 : v = true → joinF (.str " ") H = some (.dat (.str j))) : F_heard_text [T, H] = some (.ok (.dat (.str (if v then j else "nothing")))) := by
  cases v
  · simp [F_heard_text, runDef_ap, c_heard_text, st0, bnd_ap, i, e1, e2, mkTup_ok]
  · have e3 := e3 rfl
    simp [F_heard_text, runDef_ap, c_heard_text, st0, bnd_ap, i, e1, e2, e3, mkTup_ok]
theorem heard_join {hs : List (List Nat)} (h1 : hs.length ≤ 200) (h2 : ∀ a ∈ hs, a.length ≤ 5) : joinF (.str " ") (heardD hs) = some (.dat (.str (Txt.join " " (hs.map mkS)))) := by
  refine join_ok _ _ ?_ _ (.inr (by show D.tup (hs.map sD) = _; rw [List.map_map]; rfl))
  have h3 := sum_le (ys := hs.map mkS) (n := 5) fun y hy => by
    obtain ⟨q, hq, rfl⟩ := List.mem_map.mp hy
    rw [mkS_len]; exact h2 q hq
  have z : (" " : Str).length = 1 := by decide
  rw [z]
  rw [List.length_map] at h3 ⊢
  omega
theorem nt_str (x : Str) : F_need_text [.str x] = some (.ok (.dat .non)) := by
  have e : isiG [.str x, .ty "str"] = some (.dat (.bl true)) := rfl
  simp [F_need_text, runDef_ap, c_need_text, st0, bnd_ap, e]
def perS : List Str := (List.range 30).map fun k => ((toString ((k + 1 : Nat) : Int) : String) : Str)
theorem in_strsL (c : Str) (cs : List Str) : inD (.str c) (.lst (cs.map .str)) = some (.dat (.bl (decide (c ∈ cs)))) := by
  have o : ((cs.map D.str).all (okD 59)) = true := List.all_eq_true.mpr fun d hd => by
    obtain ⟨p, _, rfl⟩ := List.mem_map.mp hd
    rfl
  have e : inB (.str c) (.lst (cs.map .str)) = some (decide (c ∈ cs)) := by
    show (if (okD 59 (.str c) && (cs.map D.str).all (okD 59)) = true then some ((cs.map D.str).any fun y => eqF 59 y (.str c)) else none) = _
    rw [o]
    show some ((cs.map D.str).any fun y => eqF 59 y (.str c)) = _
    rw [List.any_map]
    congr 1
    rw [Bool.eq_iff_iff, List.any_eq_true, decide_eq_true_iff]
    constructor
    · rintro ⟨x, hx, h⟩
      have h : (x == c) = true := h
      exact (beq_iff_eq.mp h) ▸ hx
    · intro h
      exact ⟨c, h, (show (c == c) = true from beq_self_eq_true c)⟩
  unfold inD
  rw [e]; rfl
theorem is_period_ok (x : Str) : F_is_period [.str x] = some (.ok (.dat (.bl (decide (x ∈ perS))))) := by
  have e := loopL_fg (g := (gSet 1)) (ct := ret true) (ce := cap (sCB strIF (oCons (sVar 1) oNil))) (vs := [1]) (Γ0 := [.dat (.str x), .un]) (p := fun _ : Nat => true) (v := fun k => natI (k + 1)) (f := fun k => .str ((toString ((k + 1 : Nat) : Int) : String) : Str)) (List.range 30) [] (fun k hk =>
    ⟨[.dat (.str x), .dat (natI (k + 1))], _, rfl, rfl, (fun z => by cases z), fun _ => ⟨[.dat (.str x), .dat (natI (k + 1))], (by
      have s3 : strIF [natI (k + 1)] = some (.dat (.str ((toString ((k + 1 : Nat) : Int) : String) : Str))) := by
        have := List.mem_range.mp hk
        show (if (((k + 1 : Nat) : Int)).natAbs.log2 < 1920 then some (Rf.dat (.str (Str.ofString (toString ((k + 1 : Nat) : Int))))) else none) = _
        rw [if_pos (Nat.lt_of_le_of_lt (Nat.log2_le_self _) (by omega))]
      generalize ((toString ((k + 1 : Nat) : Int) : String) : Str) = ts at *
      generalize natI (k + 1) = nk at *
      simp [bnd_ap, s3]), rfl⟩⟩) (by rw [List.length_nil, List.length_range]; omega)
  have ft : (List.range 30).filter (fun _ : Nat => true) = List.range 30 := List.filter_eq_self.mpr fun _ _ => rfl
  rw [ft, List.nil_append] at e
  have em : (List.range 30).map (fun k => D.str ((toString ((k + 1 : Nat) : Int) : String) : Str)) = perS.map .str := by
    unfold perS
    rw [List.map_map]; rfl
  rw [em] at e
  have r : range2 [.int 1, .int 31] = some ((List.range 30).map fun k => natI (k + 1)) := by
    have z := range2_n (a := 1) (b := 31) (by decide) (by decide)
    rw [List.map_map] at z
    refine Eq.trans z (congrArg some (List.map_congr_left fun k _ => ?_))
    show natI (1 + k) = natI (k + 1)
    rw [Nat.add_comm]
  have a : addD (.int 30) (.int 1) = some (.dat (.int 31)) := rfl
  have i := in_strsL x perS
  have q : (sLc [1] (sRng range2 (sCons (cap (sK (.int 1))) (sCons (cap (sBin addD (sK (.int 30)) (sK (.int 1)))) sNil))) (gSet 1) (ret true) (sCB strIF (oCons (sVar 1) oNil))) [.dat (.str x), .un] = some (.ok (.own (.lst (perS.map .str))), [.dat (.str x), .un]) := sLc_to (Γ1 := [.dat (.str x), .un]) (ds := (List.range 30).map fun k => natI (k + 1)) (sRng_to (ds := [.int 1, .int 31]) (by simp [bnd_ap, a]) r) e
  refine runDef_to (f := .rt (.dat (.bl (decide (x ∈ perS))))) (Γ := [.dat (.str x), .un]) (Γ' := [.dat (.str x), .un]) rfl ?_ rfl
  unfold c_is_period
  generalize (sLc [1] (sRng range2 (sCons (cap (sK (.int 1))) (sCons (cap (sBin addD (sK (.int 30)) (sK (.int 1)))) sNil))) (gSet 1) (ret true) (sCB strIF (oCons (sVar 1) oNil))) = LC at *
  generalize D.lst (perS.map .str) = PP at *
  simp [bnd_ap, q, i]
end Law
namespace Law
open PySem DL G FW
universe u
variable {α ε σ : Type}
abbrev xP (a c : D) : D := .exc k_ParseError ["word", "line"] [c, a]
def enX (v : α → D) : Nat → List α → List D
  | _, [] => []
  | k, x :: r => .tup [natI k, v x] :: enX v (k + 1) r
theorem enX_is (v : α → D) : ∀ (xs : List α) (k : Nat), ((xs.map v).zipIdx k).map (fun p => D.tup [.int (p.2 : Nat), p.1]) = enX v k xs
  | [], _ => rfl
  | x :: r, k => by
    rw [List.map_cons, List.zipIdx_cons, List.map_cons, enX_is v r (k + 1)]; rfl
theorem enumA_L (v : α → D) (xs : List α) : enumA [.lst (xs.map v)] = some (enX v 0 xs) := by
  rw [← enX_is v xs 0]; rfl
def fo (sp : Nat → σ → α → Except ε σ) : Nat → σ → List α → Except ε σ
  | _, s, [] => .ok s
  | k, s, x :: r => match sp k s x with
    | .error e => .error e
    | .ok s' => fo sp (k + 1) s' r
def Stp (b : M Fl) (E : ε → Except D Fl) (I : σ → List Sl → Prop) (Γ : List Sl) : Except ε σ → Prop
  | .error e => ∃ Γ', b Γ = some (E e, Γ')
  | .ok s' => ∃ Γ', b Γ = some (.ok .nx, Γ') ∧ I s' Γ'
theorem fo_er {sp : Nat → σ → α → Except ε σ} {k : Nat} {s : σ} {x : α} {r : List α} {e : ε} (h : sp k s x = .error e) : fo sp k s (x :: r) = .error e := by
  simp only [fo, h]
theorem fo_ok {sp : Nat → σ → α → Except ε σ} {k : Nat} {s s' : σ} {x : α} {r : List α} (h : sp k s x = .ok s') : fo sp k s (x :: r) = fo sp (k + 1) s' r := by
  simp only [fo, h]
theorem fo_loop {g : D → M Unit} {b : M Fl} {v : α → D} {sp : Nat → σ → α → Except ε σ} {E : ε → Except D Fl} (hE : ∀ e, (∃ d, E e = Except.error d) ∨ ∃ r, E e = Except.ok (Fl.rt r)) {n : Nat} (I : Nat → σ → List Sl → Prop) : ∀ (xs : List α) (k : Nat) (s : σ) (Γ : List Sl), k + xs.length = n → I k s Γ → (∀ (k : Nat) (x : α), k < n → x ∈ xs → ∀ (s : σ) (Γ : List Sl), I k s Γ → ∃ Γa, g (.tup [natI k, v x]) Γ = some (.ok (), Γa) ∧ Stp b E (I (k + 1)) Γa (sp k s x)) →
    Stp (loopF g b (enX v k xs)) E (I n) Γ (fo sp k s xs)
  | [], k, s, Γ, hn, hi, _ => by
    have : k = n := hn
    subst this
    exact ⟨Γ, rfl, hi⟩
  | x :: r, k, s, Γ, hn, hi, h => by
    rw [List.length_cons] at hn
    obtain ⟨Γa, e1, h1⟩ := h k x (by omega) (by simp) s Γ hi
    cases hs : sp k s x with
    | error e =>
      rw [hs] at h1
      rw [fo_er hs]
      obtain ⟨Γ', e2⟩ := h1
      refine ⟨Γ', ?_⟩
      show loopF g b (.tup [natI k, v x] :: enX v (k + 1) r) Γ = _
      rw [loopF_cons, bnd_to e1]
      rcases hE e with ⟨d, hd⟩ | ⟨q, hq⟩
      · rw [hd] at e2 ⊢
        exact bnd_err e2
      · rw [hq] at e2 ⊢
        rw [bnd_to e2]; rfl
    | ok s' =>
      rw [hs] at h1
      obtain ⟨Γ', e2, i2⟩ := h1
      have ih := fo_loop hE I r (k + 1) s' Γ' (by omega) i2 fun k x hk hx s Γ hi => h k x hk (by simp [hx]) s Γ hi
      rw [fo_ok hs]
      cases hf : fo sp (k + 1) s' r with
      | error e =>
        rw [hf] at ih
        obtain ⟨Γ3, e3⟩ := ih
        exact ⟨Γ3, loopF_nx e1 e2 e3⟩
      | ok s2 =>
        rw [hf] at ih
        obtain ⟨Γ3, e3, i3⟩ := ih
        exact ⟨Γ3, loopF_nx e1 e2 e3, i3⟩
def leS (a c : Str) : Bool := !decide (c.cps.toList < a.cps.toList)
theorem leD_S (a c : Str) : leD (.str a) (.str c) = some (.dat (.bl (leS a c))) := rfl
theorem one_of {x : Str} (h : x.length = 1) : ∃ c, x = c1 c := by
  rw [len_list] at h
  match e : x.cps.toList, h with
  | [c], _ => exact ⟨c, str_ext e⟩
theorem lt1 (a c : Nat) : decide (([a] : List Nat) < [c]) = decide (a < c) := by
  refine decide_eq_decide.mpr ?_
  constructor
  · intro h
    cases h with
    | rel h => exact h
    | cons h => cases h
  · exact fun h => .rel h
theorem leS_c (a c : Nat) : leS (c1 a) (c1 c) = decide (a ≤ c) := by
  show (!decide (([c] : List Nat) < [a])) = _
  rw [lt1]
  by_cases h : c < a
  · rw [decide_eq_true h, decide_eq_false (by omega)]; rfl
  · rw [decide_eq_false h, decide_eq_true (by omega)]; rfl
theorem s_a : ("a" : Str) = c1 97 := by decide +kernel
theorem s_z : ("z" : Str) = c1 122 := by decide +kernel
def nmW (x : Str) : Bool := isNm (.str x)
theorem nmW_c (c : Nat) : nmW (c1 c) = (leS "a" (c1 c) && leS (c1 c) "z") := by
  rw [s_a, s_z, leS_c, leS_c]
  show decide (97 ≤ c ∧ c ≤ 122) = _
  rw [Bool.decide_and]
theorem nmW_len {x : Str} (h : x.length ≠ 1) : nmW x = false := by
  rw [len_list] at h
  unfold nmW isNm
  match e : x.cps.toList, h with
  | [], _ => simp [e]
  | [c], h => simp at h
  | _ :: _ :: _, _ => simp [e]
theorem per_all : (perS.all fun w => match PySem.intText? w with
    | some n => decide (1 ≤ n ∧ n ≤ 30) && decide (w.length ≤ 2)
    | none => false) = true := by decide +kernel
theorem per_int {x : Str} (h : x ∈ perS) : ∃ n, PySem.intText? x = some n ∧ (1 ≤ n ∧ n ≤ 30) ∧ x.length ≤ 2 := by
  have := List.all_eq_true.mp per_all x h
  rcases e : PySem.intText? x with _ | n
  · rw [e] at this; cases this
  · rw [e] at this
    have := Bool.and_eq_true_iff.mp this
    exact ⟨n, rfl, of_decide_eq_true this.1, of_decide_eq_true this.2⟩
def befS : Option Nat → Str
  | none => ""
  | some c => c1 c
def ln1 (k : Nat) (w0 B : Str) : Bool := decide (5 ≤ k) || (!nmW w0 || leS w0 B)
def wordsV (k : Nat) (bf : Option Nat) : List Str → Except Nat (Nat × Int)
  | [] => .error 1
  | w0 :: r => if ln1 k w0 (befS bf) = true then .error 1 else match r with
    | [] => .error 2
    | w1 :: r2 => if w1 ∈ perS then (match r2 with
      | [] => .ok (w0.cps.toList.headD 0, (PySem.intText? w1).getD 0)
      | _ :: _ => .error 3) else .error 2
def lineV (k : Nat) (bf : Option Nat) (x : Str) : Except Nat (Nat × Int) := wordsV k bf (Txt.split x (c1 32))
abbrev AccT := List (Nat × Int) × Option Nat
def stT (k : Nat) (s : AccT) (x : Str) : Except (Nat × Nat) AccT := match lineV k s.2 x with
  | .error j => .error (k + 1, j)
  | .ok q => .ok (s.1 ++ [q], some q.1)
structure GoodT (k : Nat) (s : AccT) : Prop where
  len : s.1.length = k
  hi : k ≤ 5
  asc : (s.1.map (·.1)).Pairwise (· < ·)
  bef : ∀ q ∈ s.1, ∃ m, s.2 = some m ∧ q.1 ≤ m
  abc : ∀ q ∈ s.1, 97 ≤ q.1 ∧ q.1 ≤ 122
  per : ∀ q ∈ s.1, 1 ≤ q.2 ∧ q.2 ≤ 30
theorem words_ok {k : Nat} {bf : Option Nat} {ws : List Str} {q : Nat × Int} (h : wordsV k bf ws = .ok q) : ∃ w0 w1, ws = [w0, w1] ∧ w0 = c1 q.1 ∧ w1 ∈ perS ∧ PySem.intText? w1 = some q.2 ∧ w1.length ≤ 2 ∧ ln1 k w0 (befS bf) = false ∧ k < 5 ∧ (97 ≤ q.1 ∧ q.1 ≤ 122) ∧ (1 ≤ q.2 ∧ q.2 ≤ 30) ∧ ∀ m, bf = some m → m < q.1 := by
  cases ws with
  | nil => cases h
  | cons w0 r =>
    by_cases h0 : ln1 k w0 (befS bf) = true
    · have e : wordsV k bf (w0 :: r) = .error 1 := by
        show (if ln1 k w0 (befS bf) = true then _ else _) = _
        rw [if_pos h0]
      rw [e] at h; cases h
    · cases r with
      | nil =>
        have e : wordsV k bf [w0] = .error 2 := by
          show (if ln1 k w0 (befS bf) = true then _ else _) = _
          rw [if_neg h0]
        rw [e] at h; cases h
      | cons w1 r2 =>
        by_cases h1 : w1 ∈ perS
        · cases r2 with
          | cons x y =>
            have e : wordsV k bf (w0 :: w1 :: x :: y) = .error 3 := by
              show (if ln1 k w0 (befS bf) = true then _ else _) = _
              rw [if_neg h0]
              show (if w1 ∈ perS then _ else _) = _
              rw [if_pos h1]
            rw [e] at h; cases h
          | nil =>
            have e : wordsV k bf [w0, w1] = .ok (w0.cps.toList.headD 0, (PySem.intText? w1).getD 0) := by
              show (if ln1 k w0 (befS bf) = true then _ else _) = _
              rw [if_neg h0]
              show (if w1 ∈ perS then _ else _) = _
              rw [if_pos h1]
            rw [e] at h
            obtain ⟨n, hn, h2, h3⟩ := per_int h1
            have e : q = (w0.cps.toList.headD 0, (PySem.intText? w1).getD 0) := by cases h; rfl
            have h0 : ln1 k w0 (befS bf) = false := Bool.eq_false_iff.mpr h0
            have h0' := h0
            unfold ln1 at h0'
            rw [Bool.or_eq_false_iff, Bool.or_eq_false_iff] at h0'
            obtain ⟨a1, a2, a3⟩ := h0'
            have a2 : nmW w0 = true := by simpa using a2
            have l1 : w0.length = 1 := Classical.byContradiction fun z => by rw [nmW_len z] at a2; cases a2
            obtain ⟨c, rfl⟩ := one_of l1
            have eq1 : q.1 = c := by rw [e]; rfl
            have eq2 : q.2 = n := by rw [e, hn]; rfl
            have a2 : decide (97 ≤ c ∧ c ≤ 122) = true := a2
            refine ⟨_, w1, rfl, by rw [eq1], h1, by rw [eq2]; exact hn, h3, h0, by simpa using a1, by rw [eq1]; exact of_decide_eq_true a2, by rw [eq2]; exact h2, fun m hm => ?_⟩
            rw [hm] at a3
            have a3 : leS (c1 c) (c1 m) = false := a3
            rw [leS_c] at a3
            have := of_decide_eq_false a3
            omega
        · have e : wordsV k bf (w0 :: w1 :: r2) = .error 2 := by
            show (if ln1 k w0 (befS bf) = true then _ else _) = _
            rw [if_neg h0]
            show (if w1 ∈ perS then _ else _) = _
            rw [if_neg h1]
          rw [e] at h; cases h
theorem good_st {k : Nat} {s s' : AccT} {x : Str} (g : GoodT k s) (h : stT k s x = .ok s') : GoodT (k + 1) s' := by
  unfold stT lineV at h
  split at h
  · cases h
  · rename_i q hq
    obtain ⟨w0, w1, _, _, _, _, _, _, hk, h1, h2, h3⟩ := words_ok hq
    have e : s' = (s.1 ++ [q], some q.1) := by cases h; rfl
    subst e
    refine ⟨by simp [g.len], by omega, ?_, fun p hp => ?_, fun p hp => ?_, fun p hp => ?_⟩
    · show ((s.1 ++ [q]).map (·.1)).Pairwise (· < ·)
      rw [List.map_append, List.pairwise_append]
      refine ⟨g.asc, by simp, fun a ha c hc => ?_⟩
      have : c = q.1 := by simpa using hc
      obtain ⟨p, hp, rfl⟩ := List.mem_map.mp ha
      obtain ⟨m, hm, hle⟩ := g.bef p hp
      have := h3 m hm
      omega
    · refine ⟨q.1, rfl, ?_⟩
      rcases List.mem_append.mp hp with hp | hp
      · obtain ⟨m, hm, hle⟩ := g.bef p hp
        have := h3 m hm
        omega
      · rw [List.mem_singleton.mp hp]; exact Nat.le_refl _
    · rcases List.mem_append.mp hp with hp | hp
      · exact g.abc p hp
      · rw [List.mem_singleton.mp hp]; exact h1
    · rcases List.mem_append.mp hp with hp | hp
      · exact g.per p hp
      · rw [List.mem_singleton.mp hp]; exact h2
theorem good_0 : GoodT 0 ([], none) := ⟨rfl, by omega, .nil, fun _ h => (by cases h), fun _ h => (by cases h), fun _ h => (by cases h)⟩
theorem good_T {k : Nat} {s : AccT} (g : GoodT k s) (hk : 1 ≤ k) : BellsT s.1 := ⟨by rw [g.len]; exact hk, by rw [g.len]; exact g.hi, g.asc, g.abc, g.per⟩
theorem gt_nat (k m : Nat) : gtD (natI k) (.int (m : Nat)) = some (.dat (.bl (decide (m < k)))) := by
  show some (Rf.dat (.bl (decide ((m : Int) < (k : Int))))) = _
  rw [decide_eq_decide.mpr Int.ofNat_lt]
theorem add_one (k : Nat) : addD (natI k) (.int 1) = some (.dat (natI (k + 1))) := by
  show some (Rf.dat (.int ((k : Int) + 1))) = _
  rfl
theorem in_per (x : Str) : inD (.str x) (.lst (perS.map .str)) = some (.dat (.bl (decide (x ∈ perS)))) := in_strsL x perS
theorem notIn_of {x : Str} {Z : List D} {k : Bool} (h : inD (.str x) (.lst Z) = some (.dat (.bl k))) : notInD (.str x) (.lst Z) = some (.dat (.bl !k)) := by
  unfold inD at h
  unfold notInD
  rcases e : inB (.str x) (.lst Z) with _ | v
  · rw [e] at h; cases h
  · rw [e] at h
    have : v = k := by
      have h : some (Rf.dat (.bl v)) = some (Rf.dat (.bl k)) := h
      cases h; rfl
    subst this
    rfl
noncomputable abbrev pt2 : M Fl := (sIf (sOrT (sB (sBin gtD (sVar 5) (sK (.int 5)))) (sOrT (sNotT (sB (sCallF (argN 1 F_is_name) (sCons (cap (sBin ixD (sVar 6) (sK (.int 0)))) sNil)))) (sB (sBin leD (sBin ixD (sVar 6) (sK (.int 0))) (sVar 2)))))
 (sRaise 5 ["line", "word"] (sCons (cap (sVar 5)) (sCons (cap (sK (.int 1))) sNil)))
 sSkip)
noncomputable abbrev pt3 : M Fl := (sIf (sOrT (sB (sBin ltD (sCB lenF (oCons (sVar 6) oNil)) (sK (.int 2)))) (sNotT (sB (sCallF (argN 1 F_is_period) (sCons (cap (sBin ixD (sVar 6) (sK (.int 1)))) sNil)))))
 (sRaise 5 ["line", "word"] (sCons (cap (sVar 5)) (sCons (cap (sK (.int 2))) sNil)))
 sSkip)
noncomputable abbrev pt4 : M Fl := (sIf (sB (sBin gtD (sCB lenF (oCons (sVar 6) oNil)) (sK (.int 2))))
 (sRaise 5 ["line", "word"] (sCons (cap (sVar 5)) (sCons (cap (sK (.int 3))) sNil)))
 sSkip)
noncomputable abbrev pt5 : M Fl := (sSet 2 (sBin ixD (sVar 6) (sK (.int 0))))
noncomputable abbrev pt6 : M Fl := (sDrop (sMut isLst appendM (sVar 1) (sCons (cap (sTup (sCons (cap (sBin ixD (sVar 6) (sK (.int 0)))) (sCons (cap (sCB intSF (oCons (sBin ixD (sVar 6) (sK (.int 1))) oNil))) sNil)))) sNil)))
noncomputable abbrev ptB : M Fl := (sSeq (sSet 5 (sBin addD (sVar 3) (sK (.int 1))))
 (sSeq (sSet 6 (sStr1 splitF (sVar 4) (sK (.str " "))))
 (sSeq (sIf (sOrT (sB (sBin gtD (sVar 5) (sK (.int 5)))) (sOrT (sNotT (sB (sCallF (argN 1 F_is_name) (sCons (cap (sBin ixD (sVar 6) (sK (.int 0)))) sNil)))) (sB (sBin leD (sBin ixD (sVar 6) (sK (.int 0))) (sVar 2)))))
 (sRaise 5 ["line", "word"] (sCons (cap (sVar 5)) (sCons (cap (sK (.int 1))) sNil)))
 sSkip)
 (sSeq (sIf (sOrT (sB (sBin ltD (sCB lenF (oCons (sVar 6) oNil)) (sK (.int 2)))) (sNotT (sB (sCallF (argN 1 F_is_period) (sCons (cap (sBin ixD (sVar 6) (sK (.int 1)))) sNil)))))
 (sRaise 5 ["line", "word"] (sCons (cap (sVar 5)) (sCons (cap (sK (.int 2))) sNil)))
 sSkip)
 (sSeq (sIf (sB (sBin gtD (sCB lenF (oCons (sVar 6) oNil)) (sK (.int 2))))
 (sRaise 5 ["line", "word"] (sCons (cap (sVar 5)) (sCons (cap (sK (.int 3))) sNil)))
 sSkip)
 (sSeq (sSet 2 (sBin ixD (sVar 6) (sK (.int 0))))
 (sDrop (sMut isLst appendM (sVar 1) (sCons (cap (sTup (sCons (cap (sBin ixD (sVar 6) (sK (.int 0)))) (sCons (cap (sCB intSF (oCons (sBin ixD (sVar 6) (sK (.int 1))) oNil))) sNil)))) sNil)))))))))
theorem pt_pre {P B W : D} {X : List D} {x : Str} {k : Nat} (h : splitF (.str x) (.str " ") = some (.own W)) {R : RR Fl} (x5 x6 : Sl) (r : (sSeq pt2 (sSeq pt3 (sSeq pt4 (sSeq pt5 pt6)))) [.dat P, .own (.lst X), .dat B, .dat (natI k), .dat (.str x), .dat (natI (k + 1)), .own W] = R) : ptB [.dat P, .own (.lst X), .dat B, .dat (natI k), .dat (.str x), x5, x6] = R := by
  have a := add_one k
  generalize natI k = n0 at *
  generalize natI (k + 1) = n1 at *
  refine sSeq_to (Γ' := [.dat P, .own (.lst X), .dat B, .dat n0, .dat (.str x), .dat n1, x6]) (by simp [bnd_ap, a]) (sSeq_to (Γ' := [.dat P, .own (.lst X), .dat B, .dat n0, .dat (.str x), .dat n1, .own W]) (by simp [bnd_ap, h]) r)
theorem pt2_it {P W : D} {B w0 : Str} {X : List D} {x : Str} {k : Nat} (h0 : ixD W (.int 0) = some (.dat (.str w0))) (hn : F_is_name [.str w0] = some (.ok (.dat (.bl (nmW w0))))) : pt2 [.dat P, .own (.lst X), .dat (.str B), .dat (natI k), .dat (.str x), .dat (natI (k + 1)), .own W] = if ln1 k w0 B = true then some (.error (xP (natI (k + 1)) (.int 1)), [.dat P, .own (.lst X), .dat (.str B), .dat (natI k), .dat (.str x), .dat (natI (k + 1)), .own W]) else some (.ok .nx, [.dat P, .own (.lst X), .dat (.str B), .dat (natI k), .dat (.str x), .dat (natI (k + 1)), .own W]) := by
  have g := gt_nat (k + 1) 5
  have g : gtD (natI (k + 1)) (.int 5) = some (.dat (.bl (decide (5 ≤ k)))) := g.trans (by rw [decide_eq_decide.mpr (show 5 < k + 1 ↔ 5 ≤ k by omega)])
  have l := leD_S w0 B
  have xx : excF k_ParseError ["line", "word"] [natI (k + 1), .int 1] = some (xP (natI (k + 1)) (.int 1)) := rfl
  unfold ln1
  generalize xP (natI (k + 1)) (.int 1) = XP at *
  generalize natI (k + 1) = n1 at *
  generalize nmW w0 = b2 at *
  generalize leS w0 B = b3 at *
  generalize decide (5 ≤ k) = b1 at *
  cases b1 <;> cases b2 <;> cases b3 <;> simp [bnd_ap, g, h0, hn, l, xx]
theorem pt3_short {P B W : D} {X : List D} {x : Str} {k : Nat} (hl : lenF [W] = some (.dat (.int 1))) : pt3 [.dat P, .own (.lst X), .dat B, .dat (natI k), .dat (.str x), .dat (natI (k + 1)), .own W] = some (.error (xP (natI (k + 1)) (.int 2)), [.dat P, .own (.lst X), .dat B, .dat (natI k), .dat (.str x), .dat (natI (k + 1)), .own W]) := by
  have xx : excF k_ParseError ["line", "word"] [natI (k + 1), .int 2] = some (xP (natI (k + 1)) (.int 2)) := rfl
  have lt : ltD (.int 1) (.int 2) = some (.dat (.bl true)) := rfl
  generalize xP (natI (k + 1)) (.int 2) = XP at *
  generalize natI (k + 1) = n1 at *
  simp [bnd_ap, hl, lt, xx]
theorem pt3_it {P B W N : D} {w1 : Str} {v : Bool} {X : List D} {x : Str} {k : Nat} (hl : lenF [W] = some (.dat N)) (lt : ltD N (.int 2) = some (.dat (.bl false))) (h1 : ixD W (.int 1) = some (.dat (.str w1))) (hp : F_is_period [.str w1] = some (.ok (.dat (.bl v)))) : pt3 [.dat P, .own (.lst X), .dat B, .dat (natI k), .dat (.str x), .dat (natI (k + 1)), .own W] = if v = true then some (.ok .nx, [.dat P, .own (.lst X), .dat B, .dat (natI k), .dat (.str x), .dat (natI (k + 1)), .own W]) else some (.error (xP (natI (k + 1)) (.int 2)), [.dat P, .own (.lst X), .dat B, .dat (natI k), .dat (.str x), .dat (natI (k + 1)), .own W]) := by
  have xx : excF k_ParseError ["line", "word"] [natI (k + 1), .int 2] = some (xP (natI (k + 1)) (.int 2)) := rfl
  generalize xP (natI (k + 1)) (.int 2) = XP at *
  generalize natI (k + 1) = n1 at *
  cases v <;> simp [bnd_ap, hl, lt, h1, hp, xx]
theorem pt4_it {P B W N : D} {v : Bool} {X : List D} {x : Str} {k : Nat} (hl : lenF [W] = some (.dat N)) (gt : gtD N (.int 2) = some (.dat (.bl v))) : pt4 [.dat P, .own (.lst X), .dat B, .dat (natI k), .dat (.str x), .dat (natI (k + 1)), .own W] = if v = true then some (.error (xP (natI (k + 1)) (.int 3)), [.dat P, .own (.lst X), .dat B, .dat (natI k), .dat (.str x), .dat (natI (k + 1)), .own W]) else some (.ok .nx, [.dat P, .own (.lst X), .dat B, .dat (natI k), .dat (.str x), .dat (natI (k + 1)), .own W]) := by
  have xx : excF k_ParseError ["line", "word"] [natI (k + 1), .int 3] = some (xP (natI (k + 1)) (.int 3)) := rfl
  generalize xP (natI (k + 1)) (.int 3) = XP at *
  generalize natI (k + 1) = n1 at *
  cases v <;> simp [bnd_ap, hl, gt, xx]
theorem pt56_it {P B W : D} {w0 w1 : Str} {n : Int} {X : List D} {x : Str} {k : Nat} (h0 : ixD W (.int 0) = some (.dat (.str w0))) (h1 : ixD W (.int 1) = some (.dat (.str w1))) (hi : intSF [.str w1] = some (.dat (.int n))) (hX : X.length ≤ 10) : (sSeq pt5 pt6) [.dat P, .own (.lst X), .dat B, .dat (natI k), .dat (.str x), .dat (natI (k + 1)), .own W] = some (.ok .nx, [.dat P, .own (.lst (X ++ [.tup [.str w0, .int n]])), .dat (.str w0), .dat (natI k), .dat (.str x), .dat (natI (k + 1)), .own W]) := by
  have a : X.length < big := Nat.lt_of_le_of_lt hX (by decide)
  generalize natI (k + 1) = n1 at *
  generalize natI k = n0 at *
  refine sSeq_to (Γ' := [.dat P, .own (.lst X), .dat (.str w0), .dat n0, .dat (.str x), .dat n1, .own W]) (by simp [bnd_ap, h0]) ?_
  simp [bnd_ap, h0, h1, hi, a, isLst, mkTup_ok]
noncomputable abbrev qt1 : M Fl := (sIf (sOrT (sB (sBin gtD (sVar 3) (sK (.int 4)))) (sOrT (sB (sBin neD (sCB lenF (oCons (sBin ixD (sVar 5) (sK (.int 0))) oNil)) (sK (.int 1)))) (sOrT (sNotT (sB (sChain leD leD (sK (.str "a")) (sBin ixD (sVar 5) (sK (.int 0))) (sK (.str "z"))))) (sB (sBin leD (sBin ixD (sVar 5) (sK (.int 0))) (sVar 2))))))
 (sRet (sTup (sCons (cap (sBin addD (sVar 3) (sK (.int 1)))) (sCons (cap (sK (.int 1))) sNil))))
 sSkip)
noncomputable abbrev qt2 : M Fl := (sIf (sOrT (sB (sBin eqD (sCB lenF (oCons (sVar 5) oNil)) (sK (.int 1)))) (sB (sBin notInD (sBin ixD (sVar 5) (sK (.int 1))) (sLc [6] (sRng range2 (sCons (cap (sK (.int 1))) (sCons (cap (sK (.int 31))) sNil))) (gSet 6) (ret true) (sCB strIF (oCons (sVar 6) oNil))))))
 (sRet (sTup (sCons (cap (sBin addD (sVar 3) (sK (.int 1)))) (sCons (cap (sK (.int 2))) sNil))))
 sSkip)
noncomputable abbrev qt3 : M Fl := (sIf (sB (sBin gtD (sCB lenF (oCons (sVar 5) oNil)) (sK (.int 2))))
 (sRet (sTup (sCons (cap (sBin addD (sVar 3) (sK (.int 1)))) (sCons (cap (sK (.int 3))) sNil))))
 sSkip)
noncomputable abbrev qt4 : M Fl := (sSet 2 (sBin ixD (sVar 5) (sK (.int 0))))
noncomputable abbrev qt5 : M Fl := (sDrop (sMut isLst appendM (sVar 1) (sCons (cap (sTup (sCons (cap (sBin ixD (sVar 5) (sK (.int 0)))) (sCons (cap (sCB intSF (oCons (sBin ixD (sVar 5) (sK (.int 1))) oNil))) sNil)))) sNil)))
noncomputable abbrev qtB : M Fl := (sSeq (sSet 5 (sStr1 splitF (sVar 4) (sK (.str " "))))
 (sSeq (sIf (sOrT (sB (sBin gtD (sVar 3) (sK (.int 4)))) (sOrT (sB (sBin neD (sCB lenF (oCons (sBin ixD (sVar 5) (sK (.int 0))) oNil)) (sK (.int 1)))) (sOrT (sNotT (sB (sChain leD leD (sK (.str "a")) (sBin ixD (sVar 5) (sK (.int 0))) (sK (.str "z"))))) (sB (sBin leD (sBin ixD (sVar 5) (sK (.int 0))) (sVar 2))))))
 (sRet (sTup (sCons (cap (sBin addD (sVar 3) (sK (.int 1)))) (sCons (cap (sK (.int 1))) sNil))))
 sSkip)
 (sSeq (sIf (sOrT (sB (sBin eqD (sCB lenF (oCons (sVar 5) oNil)) (sK (.int 1)))) (sB (sBin notInD (sBin ixD (sVar 5) (sK (.int 1))) (sLc [6] (sRng range2 (sCons (cap (sK (.int 1))) (sCons (cap (sK (.int 31))) sNil))) (gSet 6) (ret true) (sCB strIF (oCons (sVar 6) oNil))))))
 (sRet (sTup (sCons (cap (sBin addD (sVar 3) (sK (.int 1)))) (sCons (cap (sK (.int 2))) sNil))))
 sSkip)
 (sSeq (sIf (sB (sBin gtD (sCB lenF (oCons (sVar 5) oNil)) (sK (.int 2))))
 (sRet (sTup (sCons (cap (sBin addD (sVar 3) (sK (.int 1)))) (sCons (cap (sK (.int 3))) sNil))))
 sSkip)
 (sSeq (sSet 2 (sBin ixD (sVar 5) (sK (.int 0))))
 (sDrop (sMut isLst appendM (sVar 1) (sCons (cap (sTup (sCons (cap (sBin ixD (sVar 5) (sK (.int 0)))) (sCons (cap (sCB intSF (oCons (sBin ixD (sVar 5) (sK (.int 1))) oNil))) sNil)))) sNil))))))))
theorem qt_pre {P B W : D} {X : List D} {x : Str} {k : Nat} (h : splitF (.str x) (.str " ") = some (.own W)) {R : RR Fl} (x5 : Sl) (r : (sSeq qt1 (sSeq qt2 (sSeq qt3 (sSeq qt4 qt5)))) [.dat P, .own (.lst X), .dat B, .dat (natI k), .dat (.str x), .own W, .un] = R) : qtB [.dat P, .own (.lst X), .dat B, .dat (natI k), .dat (.str x), x5, .un] = R := by
  generalize natI k = n0 at *
  exact sSeq_to (Γ' := [.dat P, .own (.lst X), .dat B, .dat n0, .dat (.str x), .own W, .un]) (by simp [bnd_ap, h]) r
theorem qt1_it {P W : D} {B w0 : Str} {X : List D} {x : Str} {k : Nat} (hw : w0.length ≤ 1000000) (h0 : ixD W (.int 0) = some (.dat (.str w0))) : qt1 [.dat P, .own (.lst X), .dat (.str B), .dat (natI k), .dat (.str x), .own W, .un] = if ln1 k w0 B = true then some (.ok (.rt (.dat (.tup [natI (k + 1), .int 1]))), [.dat P, .own (.lst X), .dat (.str B), .dat (natI k), .dat (.str x), .own W, .un]) else some (.ok .nx, [.dat P, .own (.lst X), .dat (.str B), .dat (natI k), .dat (.str x), .own W, .un]) := by
  have g := gt_nat k 4
  have g : gtD (natI k) (.int 4) = some (.dat (.bl (decide (5 ≤ k)))) := g.trans (by rw [decide_eq_decide.mpr (show 4 < k ↔ 5 ≤ k by omega)])
  have l := leD_S w0 B
  have la := leD_S "a" w0
  have lz := leD_S w0 "z"
  have a1 := add_one k
  have hl : lenF [.str w0] = some (.dat (.int (w0.length : Nat))) := by
    show (if w0.length ≤ 16777216 then _ else _) = _
    rw [if_pos (by omega)]
  have hne : neD (.int (w0.length : Nat)) (.int 1) = some (.dat (.bl (!decide (w0.length = 1)))) := by
    show some (Rf.dat (.bl (!decide ((w0.length : Int) = 1)))) = _
    rw [decide_eq_decide.mpr (show ((w0.length : Int) = 1) ↔ w0.length = 1 by omega)]
  have hm : nmW w0 = (decide (w0.length = 1) && (leS "a" w0 && leS w0 "z")) := by
    by_cases h : w0.length = 1
    · obtain ⟨c, rfl⟩ := one_of h
      rw [decide_eq_true h, nmW_c]; rfl
    · rw [decide_eq_false h, nmW_len h]; rfl
  unfold ln1
  rw [hm]
  generalize D.int (w0.length : Nat) = NW at *
  generalize natI (k + 1) = n1 at *
  generalize natI k = n0 at *
  generalize leS w0 B = b3 at *
  generalize leS "a" w0 = b4 at *
  generalize leS w0 "z" = b5 at *
  generalize decide (w0.length = 1) = b2 at *
  generalize decide (5 ≤ k) = b1 at *
  cases b1 <;> cases b2 <;> cases b3 <;> cases b4 <;> cases b5 <;> simp [bnd_ap, g, h0, hl, hne, l, la, lz, a1, mkTup_ok]
theorem qt_lc (x0 x1 x2 x3 x4 x5 : Sl) : (sLc [6] (sRng range2 (sCons (cap (sK (.int 1))) (sCons (cap (sK (.int 31))) sNil))) (gSet 6) (ret true) (sCB strIF (oCons (sVar 6) oNil))) [x0, x1, x2, x3, x4, x5, .un] = some (.ok (.own (.lst (perS.map .str))), [x0, x1, x2, x3, x4, x5, .un]) := by
  have e := loopL_fg (g := (gSet 6)) (ct := ret true) (ce := cap (sCB strIF (oCons (sVar 6) oNil))) (vs := [6]) (Γ0 := [x0, x1, x2, x3, x4, x5, .un]) (p := fun _ : Nat => true) (v := fun k => natI (k + 1)) (f := fun k => .str ((toString ((k + 1 : Nat) : Int) : String) : Str)) (List.range 30) [] (fun k hk =>
    ⟨[x0, x1, x2, x3, x4, x5, .dat (natI (k + 1))], _, rfl, rfl, (fun z => by cases z), fun _ => ⟨[x0, x1, x2, x3, x4, x5, .dat (natI (k + 1))], (by
      have s3 : strIF [natI (k + 1)] = some (.dat (.str ((toString ((k + 1 : Nat) : Int) : String) : Str))) := by
        have := List.mem_range.mp hk
        show (if (((k + 1 : Nat) : Int)).natAbs.log2 < 1920 then some (Rf.dat (.str (Str.ofString (toString ((k + 1 : Nat) : Int))))) else none) = _
        rw [if_pos (Nat.lt_of_le_of_lt (Nat.log2_le_self _) (by omega))]
      generalize ((toString ((k + 1 : Nat) : Int) : String) : Str) = ts at *
      generalize natI (k + 1) = nk at *
      simp [bnd_ap, s3]), rfl⟩⟩) (by rw [List.length_nil, List.length_range]; omega)
  have ft : (List.range 30).filter (fun _ : Nat => true) = List.range 30 := List.filter_eq_self.mpr fun _ _ => rfl
  rw [ft, List.nil_append] at e
  have em : (List.range 30).map (fun k => D.str ((toString ((k + 1 : Nat) : Int) : String) : Str)) = perS.map .str := by
    unfold perS
    rw [List.map_map]; rfl
  rw [em] at e
  have r : range2 [.int 1, .int 31] = some ((List.range 30).map fun k => natI (k + 1)) := by
    have z := range2_n (a := 1) (b := 31) (by decide) (by decide)
    rw [List.map_map] at z
    refine Eq.trans z (congrArg some (List.map_congr_left fun k _ => ?_))
    show natI (1 + k) = natI (k + 1)
    rw [Nat.add_comm]
  exact sLc_to (Γ1 := [x0, x1, x2, x3, x4, x5, .un]) (ds := (List.range 30).map fun k => natI (k + 1)) (sRng_to (ds := [.int 1, .int 31]) rfl r) e
theorem qt2_short {P B W : D} {X : List D} {x : Str} {k : Nat} (hl : lenF [W] = some (.dat (.int 1))) : qt2 [.dat P, .own (.lst X), .dat B, .dat (natI k), .dat (.str x), .own W, .un] = some (.ok (.rt (.dat (.tup [natI (k + 1), .int 2]))), [.dat P, .own (.lst X), .dat B, .dat (natI k), .dat (.str x), .own W, .un]) := by
  have a1 := add_one k
  have e : eqD (.int 1) (.int 1) = some (.dat (.bl true)) := rfl
  unfold qt2
  generalize (sLc [6] (sRng range2 (sCons (cap (sK (.int 1))) (sCons (cap (sK (.int 31))) sNil))) (gSet 6) (ret true) (sCB strIF (oCons (sVar 6) oNil))) = LC at *
  generalize natI (k + 1) = n1 at *
  generalize natI k = n0 at *
  simp [bnd_ap, hl, e, a1, mkTup_ok]
theorem qt2_it {P B W N : D} {w1 : Str} {X : List D} {x : Str} {k : Nat} (hl : lenF [W] = some (.dat N)) (e : eqD N (.int 1) = some (.dat (.bl false))) (h1 : ixD W (.int 1) = some (.dat (.str w1))) : qt2 [.dat P, .own (.lst X), .dat B, .dat (natI k), .dat (.str x), .own W, .un] = if w1 ∈ perS then some (.ok .nx, [.dat P, .own (.lst X), .dat B, .dat (natI k), .dat (.str x), .own W, .un]) else some (.ok (.rt (.dat (.tup [natI (k + 1), .int 2]))), [.dat P, .own (.lst X), .dat B, .dat (natI k), .dat (.str x), .own W, .un]) := by
  have a1 := add_one k
  have q := qt_lc (.dat P) (.own (.lst X)) (.dat B) (.dat (natI k)) (.dat (.str x)) (.own W)
  have i := notIn_of (in_per w1)
  have ec : ∀ (R1 R2 : RR Fl), (if w1 ∈ perS then R1 else R2) = if decide (w1 ∈ perS) = true then R1 else R2 := fun _ _ => by simp
  rw [ec]
  unfold qt2
  generalize (sLc [6] (sRng range2 (sCons (cap (sK (.int 1))) (sCons (cap (sK (.int 31))) sNil))) (gSet 6) (ret true) (sCB strIF (oCons (sVar 6) oNil))) = LC at *
  generalize D.lst (perS.map .str) = PP at *
  generalize decide (w1 ∈ perS) = v at *
  generalize natI (k + 1) = n1 at *
  generalize natI k = n0 at *
  cases v <;> simp [bnd_ap, hl, e, h1, a1, q, i, mkTup_ok]
theorem qt3_it {P B W N : D} {v : Bool} {X : List D} {x : Str} {k : Nat} (hl : lenF [W] = some (.dat N)) (gt : gtD N (.int 2) = some (.dat (.bl v))) : qt3 [.dat P, .own (.lst X), .dat B, .dat (natI k), .dat (.str x), .own W, .un] = if v = true then some (.ok (.rt (.dat (.tup [natI (k + 1), .int 3]))), [.dat P, .own (.lst X), .dat B, .dat (natI k), .dat (.str x), .own W, .un]) else some (.ok .nx, [.dat P, .own (.lst X), .dat B, .dat (natI k), .dat (.str x), .own W, .un]) := by
  have a1 := add_one k
  generalize natI (k + 1) = n1 at *
  generalize natI k = n0 at *
  cases v <;> simp [bnd_ap, hl, gt, a1, mkTup_ok]
theorem qt45_it {P B W : D} {w0 w1 : Str} {n : Int} {X : List D} {x : Str} {k : Nat} (h0 : ixD W (.int 0) = some (.dat (.str w0))) (h1 : ixD W (.int 1) = some (.dat (.str w1))) (hi : intSF [.str w1] = some (.dat (.int n))) (hX : X.length ≤ 10) : (sSeq qt4 qt5) [.dat P, .own (.lst X), .dat B, .dat (natI k), .dat (.str x), .own W, .un] = some (.ok .nx, [.dat P, .own (.lst (X ++ [.tup [.str w0, .int n]])), .dat (.str w0), .dat (natI k), .dat (.str x), .own W, .un]) := by
  have a : X.length < big := Nat.lt_of_le_of_lt hX (by decide)
  generalize natI k = n0 at *
  refine sSeq_to (Γ' := [.dat P, .own (.lst X), .dat (.str w0), .dat n0, .dat (.str x), .own W, .un]) (by simp [bnd_ap, h0]) ?_
  simp [bnd_ap, h0, h1, hi, a, isLst, mkTup_ok]
end Law
namespace Law
open PySem DL G FW
theorem mem_join_len {s : Str} : ∀ {ps : List Str} {p : Str}, p ∈ ps → p.length ≤ (Str.join s ps).length
  | [], _, h => by cases h
  | [q], p, h => by
    rw [List.mem_singleton.mp h, join_sing]
    exact Nat.le_refl _
  | q :: r :: t, p, h => by
    rw [join_cons, Str.length_append, Str.length_append]
    rcases List.mem_cons.mp h with rfl | h
    · omega
    · have := mem_join_len (s := s) h
      omega
theorem line_le {x y : Str} {c : Nat} (h : y ∈ Txt.split x (c1 c)) : y.length ≤ x.length := by
  have := mem_join_len (s := c1 c) h
  have e : Str.join (c1 c) (Txt.split x (c1 c)) = x := StrLaws.join_split _ _
  rwa [e] at this
theorem split_cons (x : Str) (c : Nat) : ∃ w0 r, Txt.split x (c1 c) = w0 :: r := by
  rcases h : Txt.split x (c1 c) with _ | ⟨w0, r⟩
  · exact absurd h (split_ne x c)
  · exact ⟨w0, r, rfl⟩
def erT (p : Nat × Nat) : Except D Fl := .error (xP (natI p.1) (natI p.2))
def rtT (p : Nat × Nat) : Except D Fl := .ok (.rt (.dat (.tup [natI p.1, natI p.2])))
def prog (P : Str) (k : Nat) (s : AccT) (Γ : List Sl) : Prop := GoodT k s ∧ ∃ x3 x4 x5 x6 : Sl, Γ = [.dat (.str P), .own (.lst (s.1.map bellD)), .dat (.str (befS s.2)), x3, x4, x5, x6]
def lawr (P : Str) (k : Nat) (s : AccT) (Γ : List Sl) : Prop := GoodT k s ∧ ∃ x3 x4 x5 : Sl, Γ = [.dat (.str P), .own (.lst (s.1.map bellD)), .dat (.str (befS s.2)), x3, x4, x5, .un]
theorem ix0 (w0 : Str) (r : List Str) : ixD (.lst ((w0 :: r).map .str)) (.int 0) = some (.dat (.str w0)) := by
  show (L2.atI (.str w0 :: r.map D.str) ((0 : Nat) : Int)).map Rf.dat = _
  rw [atI_nat]; rfl
theorem ix1 (w0 w1 : Str) (r : List Str) : ixD (.lst ((w0 :: w1 :: r).map .str)) (.int 1) = some (.dat (.str w1)) := by
  show (L2.atI (.str w0 :: .str w1 :: r.map D.str) ((1 : Nat) : Int)).map Rf.dat = _
  rw [atI_nat]; rfl
theorem ln_W (ws : List Str) : lenF [.lst (ws.map .str)] = some (.dat (natI ws.length)) := by
  show some (Rf.dat (.int ((ws.map D.str).length : Nat))) = _
  rw [List.length_map]; rfl
theorem int_per {x : Str} {n : Int} (h : PySem.intText? x = some n) (hl : x.length ≤ 2) : intSF [.str x] = some (.dat (.int n)) := by
  show (match PySem.intText? x with
    | some n => if x.length ≤ 640 then some (Rf.dat (.int n)) else none
    | none => none) = _
  rw [h]
  show (if x.length ≤ 640 then some (Rf.dat (.int n)) else none) = _
  rw [if_pos (by omega)]
theorem is_nm {x : Str} (h : x.length ≤ 1000000) : F_is_name [.str x] = some (.ok (.dat (.bl (nmW x)))) := is_name_ok (.str x) (decide_eq_true (by omega))
theorem ws_er1 {k : Nat} {bf : Option Nat} {w0 : Str} {r : List Str} (h : ln1 k w0 (befS bf) = true) : wordsV k bf (w0 :: r) = .error 1 := by
  show (if ln1 k w0 (befS bf) = true then _ else _) = _
  rw [if_pos h]
theorem ws_er2 {k : Nat} {bf : Option Nat} {w0 : Str} (h : ¬ ln1 k w0 (befS bf) = true) : wordsV k bf [w0] = .error 2 := by
  show (if ln1 k w0 (befS bf) = true then _ else _) = _
  rw [if_neg h]
theorem ws_er2' {k : Nat} {bf : Option Nat} {w0 w1 : Str} {r : List Str} (h : ¬ ln1 k w0 (befS bf) = true) (h1 : w1 ∉ perS) : wordsV k bf (w0 :: w1 :: r) = .error 2 := by
  show (if ln1 k w0 (befS bf) = true then _ else _) = _
  rw [if_neg h]
  show (if w1 ∈ perS then _ else _) = _
  rw [if_neg h1]
theorem ws_er3 {k : Nat} {bf : Option Nat} {w0 w1 w2 : Str} {r : List Str} (h : ¬ ln1 k w0 (befS bf) = true) (h1 : w1 ∈ perS) : wordsV k bf (w0 :: w1 :: w2 :: r) = .error 3 := by
  show (if ln1 k w0 (befS bf) = true then _ else _) = _
  rw [if_neg h]
  show (if w1 ∈ perS then _ else _) = _
  rw [if_pos h1]
theorem ws_good {k : Nat} {bf : Option Nat} {w0 w1 : Str} (h : ¬ ln1 k w0 (befS bf) = true) (h1 : w1 ∈ perS) : ∃ q, wordsV k bf [w0, w1] = .ok q := by
  refine ⟨(w0.cps.toList.headD 0, (PySem.intText? w1).getD 0), ?_⟩
  show (if ln1 k w0 (befS bf) = true then _ else _) = _
  rw [if_neg h]
  show (if w1 ∈ perS then _ else _) = _
  rw [if_pos h1]
theorem st_er {k : Nat} {s : AccT} {x : Str} {ws : List Str} {j : Nat} (hw : Txt.split x (c1 32) = ws) (h : wordsV k s.2 ws = .error j) : stT k s x = .error (k + 1, j) := by
  unfold stT lineV
  rw [hw, h]
theorem st_ok {k : Nat} {s : AccT} {x : Str} {ws : List Str} {q : Nat × Int} (hw : Txt.split x (c1 32) = ws) (h : wordsV k s.2 ws = .ok q) : stT k s x = .ok (s.1 ++ [q], some q.1) := by
  unfold stT lineV
  rw [hw, h]
theorem turn_P {P x : Str} {k : Nat} {s : AccT} {Γ : List Sl} (hx : x.length ≤ 1000000) (i : prog P k s Γ) : ∃ Γa, (gTupD 2 (gMore (gSet 3) (gMore (gSet 4) gNone))) (.tup [natI k, .str x]) Γ = some (.ok (), Γa) ∧ Stp ptB erT (prog P (k + 1)) Γa (stT k s x) := by
  obtain ⟨g, x3, x4, x5, x6, rfl⟩ := i
  refine ⟨[.dat (.str P), .own (.lst (s.1.map bellD)), .dat (.str (befS s.2)), .dat (natI k), .dat (.str x), x5, x6], rfl, ?_⟩
  obtain ⟨w0, r, hw⟩ := split_cons x 32
  have hs : splitF (.str x) (.str " ") = some (.own (.lst ((w0 :: r).map .str))) := by
    rw [sep_sp, splitF_ok (by omega), hw]
  have l0 : w0.length ≤ 1000000 := Nat.le_trans (line_le (x := x) (c := 32) (by rw [hw]; simp)) hx
  have p2 := fun X => pt2_it (P := .str P) (B := befS s.2) (X := X) (x := x) (k := k) (ix0 w0 r) (is_nm l0)
  by_cases h1 : ln1 k w0 (befS s.2) = true
  · rw [st_er hw (ws_er1 h1)]
    have p2 := p2 (s.1.map bellD)
    rw [if_pos h1] at p2
    exact ⟨_, pt_pre hs _ _ (sSeq_err p2)⟩
  · have p2 := p2 (s.1.map bellD)
    rw [if_neg h1] at p2
    cases r with
    | nil =>
      rw [st_er hw (ws_er2 h1)]
      exact ⟨_, pt_pre hs _ _ (sSeq_to p2 (sSeq_err (pt3_short (by rw [ln_W]; rfl))))⟩
    | cons w1 r =>
      have lt : ltD (natI (w0 :: w1 :: r).length) (.int 2) = some (.dat (.bl false)) := by
        show some (Rf.dat (.bl (decide (((w0 :: w1 :: r).length : Int) < 2)))) = _
        rw [decide_eq_false (by simp only [List.length_cons]; omega)]
      have p3 := pt3_it (P := .str P) (B := .str (befS s.2)) (X := s.1.map bellD) (x := x) (k := k) (ln_W (w0 :: w1 :: r)) lt (ix1 w0 w1 r) (is_period_ok w1)
      by_cases h2 : w1 ∈ perS
      · rw [decide_eq_true h2, if_pos rfl] at p3
        have gt := gt_nat (w0 :: w1 :: r).length 2
        have p4 := pt4_it (P := .str P) (B := .str (befS s.2)) (X := s.1.map bellD) (x := x) (k := k) (ln_W (w0 :: w1 :: r)) gt
        cases r with
        | cons w2 r =>
          rw [st_er hw (ws_er3 h1 h2)]
          rw [decide_eq_true (by simp only [List.length_cons]; omega), if_pos rfl] at p4
          exact ⟨_, pt_pre hs _ _ (sSeq_to p2 (sSeq_to p3 (sSeq_err p4)))⟩
        | nil =>
          obtain ⟨q, hq⟩ := ws_good h1 h2
          have ho := st_ok hw hq
          rw [ho]
          rw [decide_eq_false (by simp), if_neg (by simp)] at p4
          obtain ⟨w0', w1', e1, e2, _, e4, e5, _⟩ := words_ok hq
          obtain ⟨rfl, rfl⟩ : w0 = w0' ∧ w1 = w1' := by
            injection e1 with a1 a2
            injection a2 with a2 _
            exact ⟨a1, a2⟩
          have p5 := pt56_it (P := .str P) (B := .str (befS s.2)) (X := s.1.map bellD) (x := x) (k := k) (ix0 w0 [w1]) (ix1 w0 w1 []) (int_per e4 e5) (by rw [List.length_map, g.len]; have := g.hi; omega)
          refine ⟨_, pt_pre hs _ _ (sSeq_to p2 (sSeq_to p3 (sSeq_to p4 p5))), good_st g ho, .dat (natI k), .dat (.str x), .dat (natI (k + 1)), .own (.lst ([w0, w1].map .str)), ?_⟩
          have : bellD q = .tup [.str w0, .int q.2] := by rw [e2]; rfl
          rw [← this, e2, List.map_append]; rfl
      · rw [decide_eq_false h2, if_neg (by simp)] at p3
        rw [st_er hw (ws_er2' h1 h2)]
        exact ⟨_, pt_pre hs _ _ (sSeq_to p2 (sSeq_err p3))⟩
theorem turn_L {P x : Str} {k : Nat} {s : AccT} {Γ : List Sl} (hx : x.length ≤ 1000000) (i : lawr P k s Γ) : ∃ Γa, (gTupD 2 (gMore (gSet 3) (gMore (gSet 4) gNone))) (.tup [natI k, .str x]) Γ = some (.ok (), Γa) ∧ Stp qtB rtT (lawr P (k + 1)) Γa (stT k s x) := by
  obtain ⟨g, x3, x4, x5, rfl⟩ := i
  refine ⟨[.dat (.str P), .own (.lst (s.1.map bellD)), .dat (.str (befS s.2)), .dat (natI k), .dat (.str x), x5, .un], rfl, ?_⟩
  obtain ⟨w0, r, hw⟩ := split_cons x 32
  have hs : splitF (.str x) (.str " ") = some (.own (.lst ((w0 :: r).map .str))) := by
    rw [sep_sp, splitF_ok (by omega), hw]
  have l0 : w0.length ≤ 1000000 := Nat.le_trans (line_le (x := x) (c := 32) (by rw [hw]; simp)) hx
  have p2 := fun X => qt1_it (P := .str P) (B := befS s.2) (X := X) (x := x) (k := k) l0 (ix0 w0 r)
  by_cases h1 : ln1 k w0 (befS s.2) = true
  · rw [st_er hw (ws_er1 h1)]
    have p2 := p2 (s.1.map bellD)
    rw [if_pos h1] at p2
    exact ⟨_, qt_pre hs _ (sSeq_rt p2)⟩
  · have p2 := p2 (s.1.map bellD)
    rw [if_neg h1] at p2
    cases r with
    | nil =>
      rw [st_er hw (ws_er2 h1)]
      exact ⟨_, qt_pre hs _ (sSeq_to p2 (sSeq_rt (qt2_short (by rw [ln_W]; rfl))))⟩
    | cons w1 r =>
      have lt : eqD (natI (w0 :: w1 :: r).length) (.int 1) = some (.dat (.bl false)) := by
        show some (Rf.dat (.bl (decide (((w0 :: w1 :: r).length : Int) = 1)))) = _
        rw [decide_eq_false (by simp only [List.length_cons]; omega)]
      have p3 := qt2_it (P := .str P) (B := .str (befS s.2)) (X := s.1.map bellD) (x := x) (k := k) (ln_W (w0 :: w1 :: r)) lt (ix1 w0 w1 r)
      by_cases h2 : w1 ∈ perS
      · rw [if_pos h2] at p3
        have gt := gt_nat (w0 :: w1 :: r).length 2
        have p4 := qt3_it (P := .str P) (B := .str (befS s.2)) (X := s.1.map bellD) (x := x) (k := k) (ln_W (w0 :: w1 :: r)) gt
        cases r with
        | cons w2 r =>
          rw [st_er hw (ws_er3 h1 h2)]
          rw [decide_eq_true (by simp only [List.length_cons]; omega), if_pos rfl] at p4
          exact ⟨_, qt_pre hs _ (sSeq_to p2 (sSeq_to p3 (sSeq_rt p4)))⟩
        | nil =>
          obtain ⟨q, hq⟩ := ws_good h1 h2
          have ho := st_ok hw hq
          rw [ho]
          rw [decide_eq_false (by simp), if_neg (by simp)] at p4
          obtain ⟨w0', w1', e1, e2, _, e4, e5, _⟩ := words_ok hq
          obtain ⟨rfl, rfl⟩ : w0 = w0' ∧ w1 = w1' := by
            injection e1 with a1 a2
            injection a2 with a2 _
            exact ⟨a1, a2⟩
          have p5 := qt45_it (P := .str P) (B := .str (befS s.2)) (X := s.1.map bellD) (x := x) (k := k) (ix0 w0 [w1]) (ix1 w0 w1 []) (int_per e4 e5) (by rw [List.length_map, g.len]; have := g.hi; omega)
          refine ⟨_, qt_pre hs _ (sSeq_to p2 (sSeq_to p3 (sSeq_to p4 p5))), good_st g ho, .dat (natI k), .dat (.str x), .own (.lst ([w0, w1].map .str)), ?_⟩
          have : bellD q = .tup [.str w0, .int q.2] := by rw [e2]; rfl
          rw [← this, e2, List.map_append]; rfl
      · rw [if_neg h2] at p3
        rw [st_er hw (ws_er2' h1 h2)]
        exact ⟨_, qt_pre hs _ (sSeq_to p2 (sSeq_rt p3))⟩
theorem fo_small : ∀ (xs : List Str) (k : Nat) (s : AccT) (p : Nat × Nat), GoodT k s → fo stT k s xs = .error p → p.1 ≤ 6 ∧ p.2 ≤ 3
  | [], k, s, p, _, h => by cases h
  | x :: r, k, s, p, g, h => by
    cases hs : stT k s x with
    | ok s' =>
      rw [fo_ok hs] at h
      exact fo_small r (k + 1) s' p (good_st g hs) h
    | error e =>
      rw [fo_er hs] at h
      have : e = p := by cases h; rfl
      subst this
      have gk := g.hi
      unfold stT at hs
      rcases hl : lineV k s.2 x with j | q
      · rw [hl] at hs
        have e2 : e = (k + 1, j) := by cases hs; rfl
        subst e2
        refine ⟨by show k + 1 ≤ 6; omega, ?_⟩
        show j ≤ 3
        unfold lineV at hl
        rcases hw : Txt.split x (c1 32) with _ | ⟨w0, r⟩
        · rw [hw] at hl; cases hl; omega
        · rw [hw] at hl
          by_cases h1 : ln1 k w0 (befS s.2) = true
          · rw [ws_er1 h1] at hl; cases hl; omega
          · rcases r with _ | ⟨w1, r⟩
            · rw [ws_er2 h1] at hl; cases hl; omega
            · by_cases h2 : w1 ∈ perS
              · rcases r with _ | ⟨w2, r⟩
                · obtain ⟨q, hq⟩ := ws_good h1 h2
                  rw [hq] at hl; cases hl
                · rw [ws_er3 h1 h2] at hl; cases hl; omega
              · rw [ws_er2' h1 h2] at hl; cases hl; omega
      · rw [hl] at hs; cases hs
noncomputable abbrev ptF : M Fl := (sFor (sRng enumA (sCons (cap (sStr1 splitF (sVar 0) (sK (.str "\n")))) sNil)) (gTupD 2 (gMore (gSet 3) (gMore (gSet 4) gNone)))
 (sSeq (sSet 5 (sBin addD (sVar 3) (sK (.int 1))))
 (sSeq (sSet 6 (sStr1 splitF (sVar 4) (sK (.str " "))))
 (sSeq (sIf (sOrT (sB (sBin gtD (sVar 5) (sK (.int 5)))) (sOrT (sNotT (sB (sCallF (argN 1 F_is_name) (sCons (cap (sBin ixD (sVar 6) (sK (.int 0)))) sNil)))) (sB (sBin leD (sBin ixD (sVar 6) (sK (.int 0))) (sVar 2)))))
 (sRaise 5 ["line", "word"] (sCons (cap (sVar 5)) (sCons (cap (sK (.int 1))) sNil)))
 sSkip)
 (sSeq (sIf (sOrT (sB (sBin ltD (sCB lenF (oCons (sVar 6) oNil)) (sK (.int 2)))) (sNotT (sB (sCallF (argN 1 F_is_period) (sCons (cap (sBin ixD (sVar 6) (sK (.int 1)))) sNil)))))
 (sRaise 5 ["line", "word"] (sCons (cap (sVar 5)) (sCons (cap (sK (.int 2))) sNil)))
 sSkip)
 (sSeq (sIf (sB (sBin gtD (sCB lenF (oCons (sVar 6) oNil)) (sK (.int 2))))
 (sRaise 5 ["line", "word"] (sCons (cap (sVar 5)) (sCons (cap (sK (.int 3))) sNil)))
 sSkip)
 (sSeq (sSet 2 (sBin ixD (sVar 6) (sK (.int 0))))
 (sDrop (sMut isLst appendM (sVar 1) (sCons (cap (sTup (sCons (cap (sBin ixD (sVar 6) (sK (.int 0)))) (sCons (cap (sCB intSF (oCons (sBin ixD (sVar 6) (sK (.int 1))) oNil))) sNil)))) sNil))))))))))
noncomputable abbrev ptR : M Fl := (sRet (sCallF (makeF 6 2 F_Tower___init) (sCons (cap (sCB tupleF (oCons (sVar 1) oNil))) sNil)))
noncomputable abbrev qtF : M Fl := (sFor (sRng enumA (sCons (cap (sStr1 splitF (sVar 0) (sK (.str "\n")))) sNil)) (gTupD 2 (gMore (gSet 3) (gMore (gSet 4) gNone)))
 (sSeq (sSet 5 (sStr1 splitF (sVar 4) (sK (.str " "))))
 (sSeq (sIf (sOrT (sB (sBin gtD (sVar 3) (sK (.int 4)))) (sOrT (sB (sBin neD (sCB lenF (oCons (sBin ixD (sVar 5) (sK (.int 0))) oNil)) (sK (.int 1)))) (sOrT (sNotT (sB (sChain leD leD (sK (.str "a")) (sBin ixD (sVar 5) (sK (.int 0))) (sK (.str "z"))))) (sB (sBin leD (sBin ixD (sVar 5) (sK (.int 0))) (sVar 2))))))
 (sRet (sTup (sCons (cap (sBin addD (sVar 3) (sK (.int 1)))) (sCons (cap (sK (.int 1))) sNil))))
 sSkip)
 (sSeq (sIf (sOrT (sB (sBin eqD (sCB lenF (oCons (sVar 5) oNil)) (sK (.int 1)))) (sB (sBin notInD (sBin ixD (sVar 5) (sK (.int 1))) (sLc [6] (sRng range2 (sCons (cap (sK (.int 1))) (sCons (cap (sK (.int 31))) sNil))) (gSet 6) (ret true) (sCB strIF (oCons (sVar 6) oNil))))))
 (sRet (sTup (sCons (cap (sBin addD (sVar 3) (sK (.int 1)))) (sCons (cap (sK (.int 2))) sNil))))
 sSkip)
 (sSeq (sIf (sB (sBin gtD (sCB lenF (oCons (sVar 5) oNil)) (sK (.int 2))))
 (sRet (sTup (sCons (cap (sBin addD (sVar 3) (sK (.int 1)))) (sCons (cap (sK (.int 3))) sNil))))
 sSkip)
 (sSeq (sSet 2 (sBin ixD (sVar 5) (sK (.int 0))))
 (sDrop (sMut isLst appendM (sVar 1) (sCons (cap (sTup (sCons (cap (sBin ixD (sVar 5) (sK (.int 0)))) (sCons (cap (sCB intSF (oCons (sBin ixD (sVar 5) (sK (.int 1))) oNil))) sNil)))) sNil)))))))))
noncomputable abbrev qtR : M Fl := (sRet (sLst (sCons (cap (sCB tupleF (oCons (sVar 1) oNil))) sNil)))
theorem read_T {x : Str} (hx : x.length ≤ 1000000) : match fo stT 0 ([], none) (Txt.split x (c1 10)) with
    | Except.error p => (p.1 ≤ 6 ∧ p.2 ≤ 3) ∧ F_read_tower [.str x] = some (.error (xP (natI p.1) (natI p.2))) ∧ F_law_tower_read [.str x] = some (.ok (.dat (.tup [natI p.1, natI p.2])))
    | Except.ok s => BellsT s.1 ∧ F_read_tower [.str x] = some (.ok (.own (towerD s.1))) ∧ F_law_tower_read [.str x] = some (.ok (.own (.lst [bellsD s.1]))) := by
  have n := nt_str x
  have hs : splitF (.str x) (.str "\n") = some (.own (.lst ((Txt.split x (c1 10)).map .str))) := by
    rw [sep_nl, splitF_ok (by omega)]
  have en := enumA_L D.str (Txt.split x (c1 10))
  have i1 := fo_loop (g := (gTupD 2 (gMore (gSet 3) (gMore (gSet 4) gNone)))) (b := ptB) (v := D.str) (sp := stT) (E := erT) (fun e => .inl ⟨_, rfl⟩) (n := (Txt.split x (c1 10)).length) (prog x) (Txt.split x (c1 10)) 0 ([], none) [.dat (.str x), .own (.lst []), .dat (.str ""), .un, .un, .un, .un] (by omega) ⟨good_0, .un, .un, .un, .un, rfl⟩ fun k y hk hy s Γ hi => turn_P (Nat.le_trans (line_le hy) hx) hi
  have i2 := fo_loop (g := (gTupD 2 (gMore (gSet 3) (gMore (gSet 4) gNone)))) (b := qtB) (v := D.str) (sp := stT) (E := rtT) (fun e => .inr ⟨_, rfl⟩) (n := (Txt.split x (c1 10)).length) (lawr x) (Txt.split x (c1 10)) 0 ([], none) [.dat (.str x), .own (.lst []), .dat (.str ""), .un, .un, .un, .un] (by omega) ⟨good_0, .un, .un, .un, rfl⟩ fun k y hk hy s Γ hi => turn_L (Nat.le_trans (line_le hy) hx) hi
  have sm := fo_small (Txt.split x (c1 10)) 0 ([], none)
  have ne : 1 ≤ (Txt.split x (c1 10)).length := by
    obtain ⟨w0, r, e⟩ := split_cons x 10
    rw [e]; simp
  generalize D.lst ((Txt.split x (c1 10)).map .str) = LS at *
  generalize enX D.str 0 (Txt.split x (c1 10)) = EN at *
  generalize (Txt.split x (c1 10)).length = NN at *
  have it1 : ∀ {R : RR Fl}, loopF (gTupD 2 (gMore (gSet 3) (gMore (gSet 4) gNone))) ptB EN [.dat (.str x), .own (.lst []), .dat (.str ""), .un, .un, .un, .un] = R → ptF [.dat (.str x), .own (.lst []), .dat (.str ""), .un, .un, .un, .un] = R := fun h => sFor_to (sRng_to (ds := [LS]) (by simp [bnd_ap, hs]) en) h
  have it2 : ∀ {R : RR Fl}, loopF (gTupD 2 (gMore (gSet 3) (gMore (gSet 4) gNone))) qtB EN [.dat (.str x), .own (.lst []), .dat (.str ""), .un, .un, .un, .un] = R → qtF [.dat (.str x), .own (.lst []), .dat (.str ""), .un, .un, .un, .un] = R := fun h => sFor_to (sRng_to (ds := [LS]) (by simp [bnd_ap, hs]) en) h
  have p0 : ∀ {R : RR Fl}, (sSeq ptF ptR) [.dat (.str x), .own (.lst []), .dat (.str ""), .un, .un, .un, .un] = R → c_read_tower (st0 7 [.str x]) = R := fun h => sSeq_to (Γ' := st0 7 [.str x]) (by simp [bnd_ap, st0, n]) (sSeq_to (Γ' := [.dat (.str x), .own (.lst []), .dat (.str ""), .un, .un, .un, .un]) (by simp [bnd_ap, st0, mkLst_ok]) h)
  have q0 : ∀ {R : RR Fl}, (sSeq qtF qtR) [.dat (.str x), .own (.lst []), .dat (.str ""), .un, .un, .un, .un] = R → c_law_tower_read (st0 7 [.str x]) = R := fun h => sSeq_to (Γ' := [.dat (.str x), .own (.lst []), .dat (.str ""), .un, .un, .un, .un]) (by simp [bnd_ap, st0, mkLst_ok]) h
  cases hf : fo stT 0 ([], none) (Txt.split x (c1 10)) with
  | error p =>
    rw [hf] at i1 i2
    obtain ⟨Γ1, e1⟩ := i1
    obtain ⟨Γ2, e2⟩ := i2
    exact ⟨sm p good_0 hf, runDef_err rfl (p0 (sSeq_err (it1 e1))), runDef_to (f := .rt (.dat (.tup [natI p.1, natI p.2]))) (Γ' := Γ2) rfl (q0 (sSeq_rt (it2 e2))) rfl⟩
  | ok s =>
    rw [hf] at i1 i2
    obtain ⟨Γ1, e1, g, a3, a4, a5, a6, rfl⟩ := i1
    obtain ⟨Γ2, e2, _, c3, c4, c5, rfl⟩ := i2
    have b := good_T g ne
    have t : tupleF [.lst (s.1.map bellD)] = some (.dat (bellsD s.1)) := rfl
    have ini := init_ok b
    show BellsT s.1 ∧ F_read_tower [.str x] = some (.ok (.own (towerD s.1))) ∧ F_law_tower_read [.str x] = some (.ok (.own (.lst [bellsD s.1])))
    generalize D.lst (s.1.map bellD) = LL at *
    generalize towerD s.1 = T at *
    generalize bellsD s.1 = BB at *
    have r1 : ptR [.dat (.str x), .own LL, .dat (.str (befS s.2)), a3, a4, a5, a6] = some (.ok (.rt (.own T)), [.dat (.str x), .own LL, .dat (.str (befS s.2)), a3, a4, a5, a6]) := by simp [bnd_ap, t, ini]
    have r2 : qtR [.dat (.str x), .own LL, .dat (.str (befS s.2)), c3, c4, c5, .un] = some (.ok (.rt (.own (.lst [BB]))), [.dat (.str x), .own LL, .dat (.str (befS s.2)), c3, c4, c5, .un]) := by simp [bnd_ap, t, mkLst_ok]
    exact ⟨b, runDef_to (f := .rt (.own T)) (Γ' := [.dat (.str x), .own LL, .dat (.str (befS s.2)), a3, a4, a5, a6]) rfl (p0 (sSeq_to (it1 e1) r1)) rfl, runDef_to (f := .rt (.own (.lst [BB]))) (Γ' := [.dat (.str x), .own LL, .dat (.str (befS s.2)), c3, c4, c5, .un]) rfl (q0 (sSeq_to (it2 e2) r2)) rfl⟩
end Law
namespace Law
open PySem DL G FW PyProof.Rows
def prtF (ss : List (List Nat)) : List Nat → List (List Nat)
  | [] => ss
  | c :: cs => prtF (addN c ss) cs
theorem prtF_mem : ∀ (cs : List Nat) (ss : List (List Nat)) (h : List Nat), h ∈ prtF ss cs ↔ ∃ a ∈ ss, ∃ t, t.Sublist cs ∧ h = a ++ t
  | [], ss, h => by
    constructor
    · intro hh
      exact ⟨h, hh, [], List.Sublist.refl _, by simp⟩
    · rintro ⟨a, ha, t, ht, rfl⟩
      have : t = [] := List.sublist_nil.mp ht
      subst this
      simpa [prtF] using ha
  | c :: cs, ss, h => by
    show h ∈ prtF (addN c ss) cs ↔ _
    rw [prtF_mem cs]
    constructor
    · rintro ⟨a, ha, t, ht, rfl⟩
      rcases List.mem_append.mp ha with ha | ha
      · exact ⟨a, ha, t, ht.cons c, rfl⟩
      · obtain ⟨d, hd, rfl⟩ := List.mem_map.mp ha
        exact ⟨d, hd, c :: t, ht.cons₂ c, by simp⟩
    · rintro ⟨a, ha, t, ht, rfl⟩
      rcases List.sublist_cons_iff.mp ht with ht | ⟨t', rfl, ht'⟩
      · exact ⟨a, List.mem_append_left _ ha, t, ht, rfl⟩
      · exact ⟨a ++ [c], List.mem_append_right _ (List.mem_map.mpr ⟨a, ha, rfl⟩), t', ht', by simp⟩
theorem prtF_nodup : ∀ (cs : List Nat) (ss : List (List Nat)), ss.Nodup → cs.Nodup → (∀ a ∈ ss, ∀ c ∈ cs, c ∉ a) → (prtF ss cs).Nodup
  | [], ss, h, _, _ => h
  | c :: cs, ss, h, hc, hd => by
    rw [List.nodup_cons] at hc
    refine prtF_nodup cs (addN c ss) ?_ hc.2 fun a ha d hd' => ?_
    · refine List.nodup_append.mpr ⟨h, List.Pairwise.map (fun a => a ++ [c]) (fun a b hab e => hab (List.append_cancel_right e)) h, fun a ha b hb e => ?_⟩
      obtain ⟨d, hd', rfl⟩ := List.mem_map.mp hb
      exact hd a ha c (by simp) (by rw [e]; simp)
    · rcases List.mem_append.mp ha with ha | ha
      · exact hd a ha d (by simp [hd'])
      · obtain ⟨e, he, rfl⟩ := List.mem_map.mp ha
        intro hm
        rcases List.mem_append.mp hm with hm | hm
        · exact hd e he d (by simp [hd']) hm
        · rw [List.mem_singleton] at hm
          exact hc.1 (hm ▸ hd')
theorem prtF_head : ∀ (cs : List Nat) (rest : List (List Nat)), ∃ r, prtF ([] :: rest) cs = [] :: r
  | [], rest => ⟨rest, rfl⟩
  | c :: cs, rest => prtF_head cs _
def allS (cs : List Nat) : List Str := (((prtF [[]] cs).tail).map mkS).mergeSort strLe
def allC (cs : List Nat) : List (List Nat) := (allS cs).map fun x => x.cps.toList
theorem map_sD (xs : List Str) : (xs.map fun x => x.cps.toList).map sD = xs.map .str := by
  rw [List.map_map]
  exact List.map_congr_left fun x _ => by show D.str (mkS x.cps.toList) = D.str x; rw [mkS_eta]
theorem allC_sD (cs : List Nat) : (allC cs).map sD = (allS cs).map .str := map_sD _
theorem tail_mem (cs : List Nat) (hn : cs.Nodup) (h : List Nat) : h ∈ (prtF [[]] cs).tail ↔ h ≠ [] ∧ h.Sublist cs := by
  obtain ⟨r, hr⟩ := prtF_head cs []
  have nd := prtF_nodup cs [[]] (by simp) hn (by simp)
  have mem := prtF_mem cs [[]] h
  rw [hr] at nd mem
  rw [hr, List.tail_cons]
  rw [List.nodup_cons] at nd
  constructor
  · intro hh
    refine ⟨fun z => nd.1 (z ▸ hh), ?_⟩
    obtain ⟨a, ha, t, ht, rfl⟩ := mem.mp (List.mem_cons_of_mem _ hh)
    rw [List.mem_singleton] at ha
    subst ha
    simpa using ht
  · rintro ⟨hne, hs⟩
    rcases List.mem_cons.mp (mem.mpr ⟨[], by simp, h, hs, by simp⟩) with e | e
    · exact absurd e hne
    · exact e
theorem allC_mem {cs : List Nat} (hn : cs.Nodup) (h : List Nat) : h ∈ allC cs ↔ ChOK cs h := by
  unfold allC allS
  rw [List.mem_map]
  constructor
  · rintro ⟨x, hx, rfl⟩
    obtain ⟨a, ha, rfl⟩ := List.mem_map.mp ((List.mergeSort_perm _ strLe).mem_iff.mp hx)
    rw [mkS_list]
    obtain ⟨h1, h2⟩ := (tail_mem cs hn a).mp ha
    exact ⟨h1, filter_sub' h2 hn⟩
  · intro o
    refine ⟨mkS h, (List.mergeSort_perm _ strLe).mem_iff.mpr (List.mem_map.mpr ⟨h, (tail_mem cs hn h).mpr ⟨o.ne, ?_⟩, rfl⟩), mkS_list h⟩
    have := List.filter_sublist (p := fun c => decide (c ∈ h)) (l := cs)
    rw [o.is] at this
    exact this
theorem se_all (x0 : Sl) : ∀ (l : List (Nat × Int)) (ss : List (List Nat)) (x2 x3 : Sl), ss.length * 2 ^ l.length ≤ 100 → (∀ a ∈ ss, a.length + l.length ≤ 100) → ∃ y2 y3,
    loopF (gTupD 2 (gMore (gSet 2) (gMore (gSet 3) gNone))) seB (l.map bellD) [x0, .own (.lst (ss.map sD)), x2, x3, .un] = some (.ok .nx, [x0, .own (.lst ((prtF ss (l.map (·.1))).map sD)), y2, y3, .un])
  | [], ss, x2, x3, hl, hc => ⟨x2, x3, rfl⟩
  | q :: l, ss, x2, x3, hl, hc => by
    have h100 : ss.length ≤ 100 := Nat.le_trans (Nat.le_mul_of_pos_right _ (Nat.two_pow_pos _)) hl
    simp only [List.length_cons] at hl hc
    have t := se_turn (c := q.1) h100 (fun a ha => by have := hc a ha; omega) x0 (.dat (.int q.2))
    obtain ⟨y2, y3, ih⟩ := se_all x0 l (addN q.1 ss) (.dat (L1 q.1)) (.dat (.int q.2)) (by
      unfold addN
      rw [List.length_append, List.length_map, ← Nat.two_mul, Nat.mul_comm 2, Nat.mul_assoc, ← Nat.pow_succ']
      exact hl) (fun a ha => by
        rcases List.mem_append.mp ha with ha | ha
        · have := hc a ha; omega
        · obtain ⟨d, hd, rfl⟩ := List.mem_map.mp ha
          have := hc d hd
          rw [List.length_append, List.length_singleton]; omega)
    have e2 : gTupD 2 (gMore (gSet 2) (gMore (gSet 3) gNone)) (bellD q) [x0, .own (.lst (ss.map sD)), x2, x3, .un] = some (.ok (), [x0, .own (.lst (ss.map sD)), .dat (L1 q.1), .dat (.int q.2), .un]) := rfl
    exact ⟨y2, y3, loopF_nx e2 t ih⟩
theorem all_split (cs : List Nat) : ∃ r : List (List Nat), (prtF [[]] cs).map sD = .str "" :: r.map sD ∧ sortedF [.lst (r.map sD)] = some (.own (.lst ((allC cs).map sD))) := by
  obtain ⟨r, hr⟩ := prtF_head cs []
  refine ⟨r, by rw [hr, e_empty]; rfl, ?_⟩
  have e : allS cs = (r.map mkS).mergeSort strLe := by unfold allS; rw [hr, List.tail_cons]
  have e1 : r.map sD = (r.map mkS).map .str := by rw [List.map_map]; rfl
  rw [allC_sD, e, e1, sortedF_strs]
theorem sets_all {l : List (Nat × Int)} (b : BellsT l) : F_law_sets [bellsD l] = some (.ok (.own (.lst ((allC (l.map (·.1))).map sD)))) := by
  have h5 := b.hi
  have hp : 2 ^ l.length ≤ 32 := Nat.pow_le_pow_right (by decide) h5
  obtain ⟨y2, y3, e⟩ := se_all (.dat (bellsD l)) l [[]] .un .un (by simp; omega) (by simp; omega)
  obtain ⟨r, h1, h2⟩ := all_split (l.map (·.1))
  have e4 : ([[]] : List (List Nat)).map sD = [.str ""] := by rw [e_empty]; rfl
  rw [h1, e4] at e
  exact sets_run rfl e h2
end Law
namespace Law
open PySem DL G FW
theorem in_allS {cs : List Nat} (hn : cs.Nodup) (x : Str) : x ∈ allS cs ↔ ChOK cs x.cps.toList := by
  rw [← allC_mem hn]
  unfold allC
  rw [List.mem_map]
  constructor
  · exact fun h => ⟨x, h, rfl⟩
  · rintro ⟨y, h, e⟩
    rw [← str_ext e]; exact h
theorem ic_bad2 {cs a : List Nat} (hc : cs.length ≤ 100) (ha : a.length ≤ 1000000) (h : a = [] ∨ cs.length < a.length ∨ cs.filter (fun c => decide (c ∈ a)) ≠ a) : F_is_chime [sD cs, sD a] = some (.ok (.dat (.bl false))) := by
  have e1 := isi_S a
  have e2 := eq_S a []
  rw [← e_empty] at e2
  have e3 : lenF [sD a] = some (.dat (.int a.length)) := by
    show (if (mkS a).length ≤ 16777216 then some (Rf.dat (.int ((mkS a).length : Nat))) else none) = _
    rw [mkS_len, if_pos (by omega)]
  have e4 := len_S cs (by omega)
  by_cases h1 : a = []
  · rw [decide_eq_true h1] at e2
    generalize sD a = A at *
    generalize sD cs = C at *
    simp [F_is_chime, runDef_ap, c_is_chime, st0, bnd_ap, e1, e2]
  · rw [decide_eq_false h1] at e2
    by_cases h2 : cs.length < a.length
    · have e7 : (cs.length : Int) < (a.length : Int) := by omega
      generalize sD a = A at *
      generalize sD cs = C at *
      simp [F_is_chime, runDef_ap, c_is_chime, st0, bnd_ap, e1, e2, e3, e4, e7]
    · have e5 := ic_ok (a := a) hc
      have e6 := eq_S (cs.filter fun c => decide (c ∈ a)) a
      rw [decide_eq_false ((h.resolve_left h1).resolve_left h2)] at e6
      have e7 : ¬ (cs.length : Int) < (a.length : Int) := by omega
      generalize sD (cs.filter fun c => decide (c ∈ a)) = FF at *
      generalize sD a = A at *
      generalize sD cs = C at *
      refine runDef_to (f := .rt (.dat (.bl false))) (Γ := [.dat C, .dat A, .un]) (Γ' := [.dat C, .dat A, .un]) rfl ?_ rfl
      refine sSeq_to (Γ' := [.dat C, .dat A, .un]) (by simp [bnd_ap, e1, e2, e3, e4, e7]) ?_
      exact sRet_to (sBin_dd e5 rfl e6)
theorem chime_any {cs : List Nat} (hc : cs.length ≤ 100) (hn : cs.Nodup) {x : Str} (hx : x.length ≤ 1000000) : F_is_chime [sD cs, .str x] = some (.ok (.dat (.bl (decide (x ∈ allS cs))))) := by
  have e : D.str x = sD x.cps.toList := by
    show D.str x = .str (mkS x.cps.toList)
    rw [mkS_eta]
  rw [e]
  by_cases h : x ∈ allS cs
  · rw [decide_eq_true h]
    exact chime_is hc ((in_allS hn x).mp h)
  · rw [decide_eq_false h]
    have h : ¬ ChOK cs x.cps.toList := fun z => h ((in_allS hn x).mpr z)
    rw [len_list] at hx
    refine ic_bad2 hc hx ?_
    by_cases h1 : x.cps.toList = []
    · exact .inl h1
    · exact .inr (.inr fun z => h ⟨h1, z⟩)
theorem in_sets (cs : List Nat) (x : Str) : notInD (.str x) (.lst ((allC cs).map sD)) = some (.dat (.bl (!decide (x ∈ allS cs)))) := by
  rw [allC_sD]
  exact notIn_of (in_strsL x (allS cs))
def stH (cs : List Nat) (k : Nat) (_ : Unit) (x : Str) : Except (Nat × Nat) Unit := if (decide (200 ≤ k) || !decide (x ∈ allS cs)) = true then .error (1, k + 1) else .ok ()
theorem ge_nat (k m : Nat) : geD (natI k) (.int (m : Nat)) = some (.dat (.bl (decide (m ≤ k)))) := by
  show some (Rf.dat (.bl (decide ((m : Int) ≤ (k : Int))))) = _
  rw [decide_eq_decide.mpr Int.ofNat_le]
theorem fo_sm (cs : List Nat) : ∀ (xs : List Str) (k : Nat) (p : Nat × Nat), k ≤ 200 → fo (stH cs) k () xs = .error p → p.1 ≤ 2 ∧ p.2 ≤ 201
  | [], k, p, _, h => by cases h
  | x :: r, k, p, hk, h => by
    by_cases hs : (decide (200 ≤ k) || !decide (x ∈ allS cs)) = true
    · have e : stH cs k () x = .error (1, k + 1) := if_pos hs
      rw [fo_er e] at h
      have : (1, k + 1) = p := by cases h; rfl
      subst this
      exact ⟨by show 1 ≤ 2; omega, by show k + 1 ≤ 201; omega⟩
    · have e : stH cs k () x = .ok () := if_neg hs
      rw [fo_ok e] at h
      have h1 : decide (200 ≤ k) = false := (Bool.or_eq_false_iff.mp (Bool.eq_false_iff.mpr hs)).1
      have := of_decide_eq_false h1
      exact fo_sm cs r (k + 1) p (by omega) h
theorem fo_good (cs : List Nat) : ∀ (xs : List Str) (k : Nat), k ≤ 200 → fo (stH cs) k () xs = .ok () → (∀ x ∈ xs, x ∈ allS cs) ∧ k + xs.length ≤ 200
  | [], k, hk, h => ⟨fun x hx => (by cases hx), hk⟩
  | x :: r, k, hk, h => by
    by_cases hs : (decide (200 ≤ k) || !decide (x ∈ allS cs)) = true
    · have e : stH cs k () x = .error (1, k + 1) := if_pos hs
      rw [fo_er e] at h
      cases h
    · have e : stH cs k () x = .ok () := if_neg hs
      rw [fo_ok e] at h
      have h0 := Bool.or_eq_false_iff.mp (Bool.eq_false_iff.mpr hs)
      have := of_decide_eq_false h0.1
      have h2 : x ∈ allS cs := by
        have := h0.2
        simpa using this
      obtain ⟨a, b⟩ := fo_good cs r (k + 1) (by omega) h
      refine ⟨fun y hy => ?_, by rw [List.length_cons]; omega⟩
      rcases List.mem_cons.mp hy with rfl | hy
      · exact h2
      · exact a y hy
noncomputable abbrev ph3 : M Fl := (sIf (sB (sBin eqD (sBin ixD (sVar 3) (sK (.int 0))) (sK (.str "nothing"))))
 (sSeq (sIf (sB (sBin gtD (sCB lenF (oCons (sVar 3) oNil)) (sK (.int 1))))
 (sRaise 5 ["line", "word"] (sCons (cap (sK (.int 1))) (sCons (cap (sK (.int 2))) sNil)))
 sSkip)
 (sSet 4 (sTup sNil)))
 (sSeq (sFor (sRng enumA (sCons (cap (sVar 3)) sNil)) (gTupD 2 (gMore (gSet 5) (gMore (gSet 6) gNone)))
 (sIf (sOrT (sB (sBin geD (sVar 5) (sOne (conF 6 "MAX_HEARD" (.int 200)) (sVar 0)))) (sNotT (sB (sCallF (argN 2 F_is_chime) (sCons (cap (sProp 6 F_Tower_names (sVar 0))) (sCons (cap (sVar 6)) sNil))))))
 (sRaise 5 ["line", "word"] (sCons (cap (sK (.int 1))) (sCons (cap (sBin addD (sVar 5) (sK (.int 1)))) sNil)))
 sSkip))
 (sSet 4 (sCB tupleF (oCons (sVar 3) oNil)))))
noncomputable abbrev ph4 : M Fl := (sIf (sB (sBin gtD (sCB lenF (oCons (sVar 2) oNil)) (sK (.int 1))))
 (sRaise 5 ["line", "word"] (sCons (cap (sK (.int 2))) (sCons (cap (sK (.int 1))) sNil)))
 sSkip)
noncomputable abbrev ph5 : M Fl := (sRet (sVar 4))
noncomputable abbrev phB : M Fl := (sIf (sOrT (sB (sBin geD (sVar 5) (sOne (conF 6 "MAX_HEARD" (.int 200)) (sVar 0)))) (sNotT (sB (sCallF (argN 2 F_is_chime) (sCons (cap (sProp 6 F_Tower_names (sVar 0))) (sCons (cap (sVar 6)) sNil))))))
 (sRaise 5 ["line", "word"] (sCons (cap (sK (.int 1))) (sCons (cap (sBin addD (sVar 5) (sK (.int 1)))) sNil)))
 sSkip)
theorem ph_pre {T LL WW : D} {x x0 : Str} {R : RR Fl} (n : F_need_text [.str x] = some (.ok (.dat .non))) (h1 : splitF (.str x) (.str "\n") = some (.own LL)) (h2 : ixD LL (.int 0) = some (.dat (.str x0))) (h3 : splitF (.str x0) (.str " ") = some (.own WW)) (r : (sSeq ph3 (sSeq ph4 ph5)) [.dat T, .dat (.str x), .own LL, .own WW, .un, .un, .un] = R) : c_read_heard (st0 7 [T, .str x]) = R :=
  sSeq_to (Γ' := st0 7 [T, .str x]) (by simp [bnd_ap, st0, n]) (sSeq_to (Γ' := [.dat T, .dat (.str x), .own LL, .un, .un, .un, .un]) (by simp [bnd_ap, st0, h1]) (sSeq_to (Γ' := [.dat T, .dat (.str x), .own LL, .own WW, .un, .un, .un]) (by simp [bnd_ap, h2, h3]) r))
theorem ph3_no {T P LL WW w0 N : D} {v : Bool} (h0 : ixD WW (.int 0) = some (.dat w0)) (e : eqD w0 (.str "nothing") = some (.dat (.bl true))) (hl : lenF [WW] = some (.dat N)) (g : gtD N (.int 1) = some (.dat (.bl v))) : ph3 [.dat T, .dat P, .own LL, .own WW, .un, .un, .un] = if v = true then some (.error (xP (natI 1) (natI 2)), [.dat T, .dat P, .own LL, .own WW, .un, .un, .un]) else some (.ok .nx, [.dat T, .dat P, .own LL, .own WW, .dat (.tup []), .un, .un]) := by
  have xx : excF k_ParseError ["line", "word"] [.int 1, .int 2] = some (xP (natI 1) (natI 2)) := rfl
  generalize xP (natI 1) (natI 2) = XP at *
  cases v <;> simp [bnd_ap, h0, e, hl, g, xx, mkTup_ok]
theorem ph3_er {T P LL WW w0 e0 : D} {Γ' : List Sl} {EN : List D} (h0 : ixD WW (.int 0) = some (.dat w0)) (e : eqD w0 (.str "nothing") = some (.dat (.bl false))) (en : enumA [WW] = some EN) (lp : loopF (gTupD 2 (gMore (gSet 5) (gMore (gSet 6) gNone))) phB EN [.dat T, .dat P, .own LL, .dat WW, .un, .un, .un] = some (.error e0, Γ')) : ph3 [.dat T, .dat P, .own LL, .own WW, .un, .un, .un] = some (.error e0, Γ') :=
  sIf_f (Γ1 := [.dat T, .dat P, .own LL, .own WW, .un, .un, .un]) (by simp [bnd_ap, h0, e]) (sSeq_err (sFor_to (Γ1 := [.dat T, .dat P, .own LL, .dat WW, .un, .un, .un]) (sRng_to (ds := [WW]) (by simp [bnd_ap]) en) lp))
theorem ph3_ok {T P LL WW w0 TT : D} {y5 y6 : Sl} {EN : List D} (h0 : ixD WW (.int 0) = some (.dat w0)) (e : eqD w0 (.str "nothing") = some (.dat (.bl false))) (en : enumA [WW] = some EN) (lp : loopF (gTupD 2 (gMore (gSet 5) (gMore (gSet 6) gNone))) phB EN [.dat T, .dat P, .own LL, .dat WW, .un, .un, .un] = some (.ok .nx, [.dat T, .dat P, .own LL, .dat WW, .un, y5, y6])) (t : tupleF [WW] = some (.dat TT)) : ph3 [.dat T, .dat P, .own LL, .own WW, .un, .un, .un] = some (.ok .nx, [.dat T, .dat P, .own LL, .dat WW, .dat TT, y5, y6]) :=
  sIf_f (Γ1 := [.dat T, .dat P, .own LL, .own WW, .un, .un, .un]) (by simp [bnd_ap, h0, e]) (sSeq_to (sFor_to (Γ1 := [.dat T, .dat P, .own LL, .dat WW, .un, .un, .un]) (sRng_to (ds := [WW]) (by simp [bnd_ap]) en) lp) (by simp [bnd_ap, t]))
theorem ph45 {LL N TT : D} {v : Bool} (hl : lenF [LL] = some (.dat N)) (g : gtD N (.int 1) = some (.dat (.bl v))) (x0 x1 x3 x5 x6 : Sl) : (sSeq ph4 ph5) [x0, x1, .own LL, x3, .dat TT, x5, x6] = if v = true then some (.error (xP (natI 2) (natI 1)), [x0, x1, .own LL, x3, .dat TT, x5, x6]) else some (.ok (.rt (.dat TT)), [x0, x1, .own LL, x3, .dat TT, x5, x6]) := by
  have xx : excF k_ParseError ["line", "word"] [.int 2, .int 1] = some (xP (natI 2) (natI 1)) := rfl
  generalize xP (natI 2) (natI 1) = XP at *
  cases v
  · exact sSeq_to (Γ' := [x0, x1, .own LL, x3, .dat TT, x5, x6]) (by simp [bnd_ap, hl, g]) (by simp [bnd_ap])
  · exact sSeq_err (by simp [bnd_ap, hl, g, xx])
theorem phB_it {T N : D} {cs : List Nat} {k : Nat} {x : Str} (i : isInsB k_Tower "" T = true) (i2 : isInsB k_Tower "MAX_HEARD" T = true) (hn : F_Tower_names [T] = some (.ok (.dat N))) (hc : F_is_chime [N, .str x] = some (.ok (.dat (.bl (decide (x ∈ allS cs)))))) (x1 x2 x3 x4 : Sl) : phB [.dat T, x1, x2, x3, x4, .dat (natI k), .dat (.str x)] = if (decide (200 ≤ k) || !decide (x ∈ allS cs)) = true then some (erT (1, k + 1), [.dat T, x1, x2, x3, x4, .dat (natI k), .dat (.str x)]) else some (.ok .nx, [.dat T, x1, x2, x3, x4, .dat (natI k), .dat (.str x)]) := by
  have g := ge_nat k 200
  have g : geD (natI k) (.int 200) = some (.dat (.bl (decide (200 ≤ k)))) := g
  have e4 : conF k_Tower "MAX_HEARD" (.int 200) T = some (.dat (.int 200)) := by unfold conF; rw [if_pos i2]
  have a := add_one k
  have xx : excF k_ParseError ["line", "word"] [.int 1, natI (k + 1)] = some (xP (natI 1) (natI (k + 1))) := rfl
  have ee : erT (1, k + 1) = .error (xP (natI 1) (natI (k + 1))) := rfl
  rw [ee]
  generalize xP (natI 1) (natI (k + 1)) = XP at *
  generalize decide (200 ≤ k) = v1 at *
  generalize decide (x ∈ allS cs) = v2 at *
  generalize natI (k + 1) = k1 at *
  generalize natI k = kk at *
  cases v1 <;> cases v2 <;> simp [bnd_ap, i, e4, hn, hc, g, a, xx]
def progH (T P LL WW : D) (_ : Nat) (_ : Unit) (Γ : List Sl) : Prop := ∃ x5 x6 : Sl, Γ = [.dat T, .dat P, .own LL, .dat WW, .un, x5, x6]
theorem turn_H {T P LL WW : D} {cs : List Nat} {k : Nat} {x : Str} {Γ : List Sl} (i : isInsB k_Tower "" T = true) (i2 : isInsB k_Tower "MAX_HEARD" T = true) (hn : F_Tower_names [T] = some (.ok (.dat (sD cs)))) (hc : cs.length ≤ 100) (nd : cs.Nodup) (hx : x.length ≤ 1000000) (hi : progH T P LL WW k () Γ) : ∃ Γa, (gTupD 2 (gMore (gSet 5) (gMore (gSet 6) gNone))) (.tup [natI k, .str x]) Γ = some (.ok (), Γa) ∧ Stp phB erT (progH T P LL WW (k + 1)) Γa (stH cs k () x) := by
  obtain ⟨x5, x6, rfl⟩ := hi
  refine ⟨[.dat T, .dat P, .own LL, .dat WW, .un, .dat (natI k), .dat (.str x)], rfl, ?_⟩
  have h := phB_it (k := k) i i2 hn (chime_any hc nd hx) (.dat P) (.own LL) (.dat WW) .un
  unfold stH
  by_cases c : (decide (200 ≤ k) || !decide (x ∈ allS cs)) = true
  · rw [if_pos c] at h ⊢
    exact ⟨_, h⟩
  · rw [if_neg c] at h ⊢
    exact ⟨_, h, _, _, rfl⟩
noncomputable abbrev qh2 : M Fl := (sIf (sAndT (sB (sBin eqD (sBin ixD (sVar 4) (sK (.int 0))) (sK (.str "nothing")))) (sB (sBin gtD (sCB lenF (oCons (sVar 4) oNil)) (sK (.int 1)))))
 (sRet (sTup (sCons (cap (sK (.int 1))) (sCons (cap (sK (.int 2))) sNil))))
 sSkip)
noncomputable abbrev qh3 : M Fl := (sFor (sRng enumA (sCons (cap (sIfE (sB (sBin neD (sBin ixD (sVar 4) (sK (.int 0))) (sK (.str "nothing")))) (sVar 4) (sLst sNil))) sNil)) (gTupD 2 (gMore (gSet 5) (gMore (gSet 6) gNone)))
 (sIf (sOrT (sB (sBin gtD (sVar 5) (sK (.int 199)))) (sB (sBin notInD (sVar 6) (sVar 3))))
 (sRet (sTup (sCons (cap (sK (.int 1))) (sCons (cap (sBin addD (sVar 5) (sK (.int 1)))) sNil))))
 sSkip))
noncomputable abbrev qh4 : M Fl := (sIf (sB (sBin gtD (sCB lenF (oCons (sVar 2) oNil)) (sK (.int 1))))
 (sRet (sTup (sCons (cap (sK (.int 2))) (sCons (cap (sK (.int 1))) sNil))))
 sSkip)
noncomputable abbrev qh5 : M Fl := (sRet (sLst (sCons (cap (sIfE (sB (sBin neD (sBin ixD (sVar 4) (sK (.int 0))) (sK (.str "nothing")))) (sCB tupleF (oCons (sVar 4) oNil)) (sTup sNil))) sNil)))
noncomputable abbrev qhB : M Fl := (sIf (sOrT (sB (sBin gtD (sVar 5) (sK (.int 199)))) (sB (sBin notInD (sVar 6) (sVar 3))))
 (sRet (sTup (sCons (cap (sK (.int 1))) (sCons (cap (sBin addD (sVar 5) (sK (.int 1)))) sNil))))
 sSkip)
theorem qh_pre {B LL SS WW : D} {x x0 : Str} {R : RR Fl} (n : F_law_sets [B] = some (.ok (.own SS))) (h1 : splitF (.str x) (.str "\n") = some (.own LL)) (h2 : ixD LL (.int 0) = some (.dat (.str x0))) (h3 : splitF (.str x0) (.str " ") = some (.own WW)) (r : (sSeq qh2 (sSeq qh3 (sSeq qh4 qh5))) [.dat B, .dat (.str x), .own LL, .own SS, .own WW, .un, .un] = R) : c_law_heard_read (st0 7 [B, .str x]) = R :=
  sSeq_to (Γ' := [.dat B, .dat (.str x), .own LL, .own SS, .un, .un, .un]) (by simp [bnd_ap, st0, n, h1]) (sSeq_to (Γ' := [.dat B, .dat (.str x), .own LL, .own SS, .own WW, .un, .un]) (by simp [bnd_ap, h2, h3]) r)
theorem qh2_it {B P LL SS WW w0 N : D} {u v : Bool} (h0 : ixD WW (.int 0) = some (.dat w0)) (e : eqD w0 (.str "nothing") = some (.dat (.bl u))) (hl : lenF [WW] = some (.dat N)) (g : gtD N (.int 1) = some (.dat (.bl v))) : qh2 [.dat B, .dat P, .own LL, .own SS, .own WW, .un, .un] = if (u && v) = true then some (.ok (.rt (.dat (.tup [natI 1, natI 2]))), [.dat B, .dat P, .own LL, .own SS, .own WW, .un, .un]) else some (.ok .nx, [.dat B, .dat P, .own LL, .own SS, .own WW, .un, .un]) := by
  have t : mkTup [.int 1, .int 2] = some (.dat (.tup [natI 1, natI 2])) := rfl
  generalize D.tup [natI 1, natI 2] = TT at *
  cases u <;> cases v <;> simp [bnd_ap, h0, e, hl, g, t]
theorem qh3_no {B P LL SS WW w0 : D} (h0 : ixD WW (.int 0) = some (.dat w0)) (e : neD w0 (.str "nothing") = some (.dat (.bl false))) : qh3 [.dat B, .dat P, .own LL, .own SS, .own WW, .un, .un] = some (.ok .nx, [.dat B, .dat P, .own LL, .own SS, .own WW, .un, .un]) := by
  have en : enumA [.lst []] = some [] := rfl
  exact sFor_to (Γ1 := [.dat B, .dat P, .own LL, .own SS, .own WW, .un, .un]) (ds := []) (sRng_to (ds := [.lst []]) (by simp [bnd_ap, h0, e, mkLst_ok]) en) rfl
theorem qh3_go {B P LL SS WW w0 : D} {EN : List D} {R : RR Fl} (h0 : ixD WW (.int 0) = some (.dat w0)) (e : neD w0 (.str "nothing") = some (.dat (.bl true))) (en : enumA [WW] = some EN) (lp : loopF (gTupD 2 (gMore (gSet 5) (gMore (gSet 6) gNone))) qhB EN [.dat B, .dat P, .own LL, .own SS, .dat WW, .un, .un] = R) : qh3 [.dat B, .dat P, .own LL, .own SS, .own WW, .un, .un] = R :=
  sFor_to (Γ1 := [.dat B, .dat P, .own LL, .own SS, .dat WW, .un, .un]) (ds := EN) (sRng_to (ds := [WW]) (by simp [bnd_ap, h0, e]) en) lp
theorem qh45 {LL N WW w0 TT RR : D} {x4 : Sl} {u v : Bool} (ho : x4 = .own WW ∨ x4 = .dat WW) (hl : lenF [LL] = some (.dat N)) (g : gtD N (.int 1) = some (.dat (.bl v))) (h0 : ixD WW (.int 0) = some (.dat w0)) (e : neD w0 (.str "nothing") = some (.dat (.bl u))) (t : tupleF [WW] = some (.dat TT)) (hr : RR = if u = true then TT else .tup []) (x0 x1 x3 x5 x6 : Sl) : ∃ Γ', (sSeq qh4 qh5) [x0, x1, .own LL, x3, x4, x5, x6] = some (if v = true then .ok (.rt (.dat (.tup [natI 2, natI 1]))) else .ok (.rt (.own (.lst [RR]))), Γ') := by
  have tt : mkTup [.int 2, .int 1] = some (.dat (.tup [natI 2, natI 1])) := rfl
  generalize D.tup [natI 2, natI 1] = T2 at *
  subst hr
  cases v
  · refine ⟨[x0, x1, .own LL, x3, x4, x5, x6], sSeq_to (Γ' := [x0, x1, .own LL, x3, x4, x5, x6]) (by simp [bnd_ap, hl, g]) ?_⟩
    rcases ho with rfl | rfl <;> cases u <;> simp [bnd_ap, h0, e, t, mkLst_ok, mkTup_ok]
  · exact ⟨_, sSeq_rt (Γ' := [x0, x1, .own LL, x3, x4, x5, x6]) (by simp [bnd_ap, hl, g, tt])⟩
theorem qhB_it {cs : List Nat} {k : Nat} {x : Str} (x0 x1 x2 x4 : Sl) : qhB [x0, x1, x2, .own (.lst ((allC cs).map sD)), x4, .dat (natI k), .dat (.str x)] = if (decide (200 ≤ k) || !decide (x ∈ allS cs)) = true then some (rtT (1, k + 1), [x0, x1, x2, .own (.lst ((allC cs).map sD)), x4, .dat (natI k), .dat (.str x)]) else some (.ok .nx, [x0, x1, x2, .own (.lst ((allC cs).map sD)), x4, .dat (natI k), .dat (.str x)]) := by
  have g := gt_nat k 199
  have g : gtD (natI k) (.int 199) = some (.dat (.bl (decide (200 ≤ k)))) := g
  have a := add_one k
  have hi := in_sets cs x
  have tt : mkTup [.int 1, natI (k + 1)] = some (.dat (.tup [natI 1, natI (k + 1)])) := rfl
  have ee : rtT (1, k + 1) = .ok (.rt (.dat (.tup [natI 1, natI (k + 1)]))) := rfl
  rw [ee]
  generalize D.tup [natI 1, natI (k + 1)] = TT at *
  generalize D.lst ((allC cs).map sD) = SS at *
  generalize decide (200 ≤ k) = v1 at *
  generalize decide (x ∈ allS cs) = v2 at *
  generalize natI (k + 1) = k1 at *
  generalize natI k = kk at *
  cases v1 <;> cases v2 <;> simp [bnd_ap, hi, g, a, tt]
def lawH (B P LL SS WW : D) (_ : Nat) (_ : Unit) (Γ : List Sl) : Prop := ∃ x5 x6 : Sl, Γ = [.dat B, .dat P, .own LL, .own SS, .dat WW, x5, x6]
theorem turn_I {B P LL WW : D} {cs : List Nat} {k : Nat} {x : Str} {Γ : List Sl} (hi : lawH B P LL (.lst ((allC cs).map sD)) WW k () Γ) : ∃ Γa, (gTupD 2 (gMore (gSet 5) (gMore (gSet 6) gNone))) (.tup [natI k, .str x]) Γ = some (.ok (), Γa) ∧ Stp qhB rtT (lawH B P LL (.lst ((allC cs).map sD)) WW (k + 1)) Γa (stH cs k () x) := by
  obtain ⟨x5, x6, rfl⟩ := hi
  refine ⟨[.dat B, .dat P, .own LL, .own (.lst ((allC cs).map sD)), .dat WW, .dat (natI k), .dat (.str x)], rfl, ?_⟩
  have h := qhB_it (cs := cs) (k := k) (x := x) (.dat B) (.dat P) (.own LL) (.dat WW)
  unfold stH
  by_cases c : (decide (200 ≤ k) || !decide (x ∈ allS cs)) = true
  · rw [if_pos c] at h ⊢
    exact ⟨_, h⟩
  · rw [if_neg c] at h ⊢
    exact ⟨_, h, _, _, rfl⟩
theorem eq_no (x : Str) : eqD (.str x) (.str "nothing") = some (.dat (.bl (decide (x = "nothing")))) := by
  show some (Rf.dat (.bl (x == "nothing"))) = _
  congr 3
theorem ne_no (x : Str) : neD (.str x) (.str "nothing") = some (.dat (.bl (!decide (x = "nothing")))) := by
  show some (Rf.dat (.bl (!(x == "nothing")))) = _
  congr 4
theorem read_H {l : List (Nat × Int)} (b : BellsT l) {x : Str} (hx : x.length ≤ 1000000) : (∃ p : Nat × Nat, (p.1 ≤ 2 ∧ p.2 ≤ 201) ∧ F_read_heard [towerD l, .str x] = some (.error (xP (natI p.1) (natI p.2))) ∧ F_law_heard_read [bellsD l, .str x] = some (.ok (.dat (.tup [natI p.1, natI p.2])))) ∨
    ∃ ws : List Str, (∀ y ∈ ws, y ∈ allS (l.map (·.1))) ∧ ws.length ≤ 200 ∧ F_read_heard [towerD l, .str x] = some (.ok (.dat (.tup (ws.map .str)))) ∧ F_law_heard_read [bellsD l, .str x] = some (.ok (.own (.lst [.tup (ws.map .str)]))) := by
  have n := nt_str x
  obtain ⟨l0, lr, hl⟩ := split_cons x 10
  obtain ⟨w0, r, hw⟩ := split_cons l0 32
  have ll : l0.length ≤ 1000000 := Nat.le_trans (line_le (x := x) (c := 10) (by rw [hl]; simp)) hx
  have s1 : splitF (.str x) (.str "\n") = some (.own (.lst ((l0 :: lr).map .str))) := by
    rw [sep_nl, splitF_ok (by omega), hl]
  have s2 : splitF (.str l0) (.str " ") = some (.own (.lst ((w0 :: r).map .str))) := by
    rw [sep_sp, splitF_ok (by omega), hw]
  have i0 := ix0 l0 lr
  have j0 := ix0 w0 r
  have sa := sets_all b
  have cl : (l.map (·.1)).length ≤ 100 := by rw [List.length_map]; have := b.hi; omega
  have nd := nd_bells b
  have hn : F_Tower_names [towerD l] = some (.ok (.dat (sD (l.map (·.1))))) := pr_names l
  have iT := isIns_tower l
  have iM := isMax_tower l
  have nl := ln_W (l0 :: lr)
  have nw := ln_W (w0 :: r)
  have gl := gt_nat (l0 :: lr).length 1
  have gw := gt_nat (w0 :: r).length 1
  have eN := eq_no w0
  have nN := ne_no w0
  have en := enumA_L D.str (w0 :: r)
  have tu : tupleF [.lst ((w0 :: r).map .str)] = some (.dat (.tup ((w0 :: r).map .str))) := rfl
  have lp1 := fo_loop (g := (gTupD 2 (gMore (gSet 5) (gMore (gSet 6) gNone)))) (b := phB) (v := D.str) (sp := stH (l.map (·.1))) (E := erT) (fun e => .inl ⟨_, rfl⟩) (n := (w0 :: r).length) (progH (towerD l) (.str x) (.lst ((l0 :: lr).map .str)) (.lst ((w0 :: r).map .str))) (w0 :: r) 0 () _ (by omega) ⟨.un, .un, rfl⟩ fun k y hk hy s Γ hi => turn_H iT iM hn cl nd (Nat.le_trans (line_le (x := l0) (c := 32) (by rw [hw]; exact hy)) ll) hi
  have lp2 := fo_loop (g := (gTupD 2 (gMore (gSet 5) (gMore (gSet 6) gNone)))) (b := qhB) (v := D.str) (sp := stH (l.map (·.1))) (E := rtT) (fun e => .inr ⟨_, rfl⟩) (n := (w0 :: r).length) (lawH (bellsD l) (.str x) (.lst ((l0 :: lr).map .str)) (.lst ((allC (l.map (·.1))).map sD)) (.lst ((w0 :: r).map .str))) (w0 :: r) 0 () _ (by omega) ⟨.un, .un, rfl⟩ fun k y hk hy s Γ hi => turn_I hi
  have q2 := fun P => qh2_it (B := bellsD l) (P := P) (LL := .lst ((l0 :: lr).map .str)) (SS := .lst ((allC (l.map (·.1))).map sD)) j0 eN nw gw
  by_cases c : w0 = "nothing"
  · rw [decide_eq_true c] at eN nN q2
    have p3 := fun P => ph3_no (T := towerD l) (P := P) (LL := .lst ((l0 :: lr).map .str)) j0 eN nw gw
    by_cases c1 : 1 < (w0 :: r).length
    · rw [decide_eq_true c1] at p3 q2
      have p3 := p3 (.str x)
      have q2 := q2 (.str x)
      rw [if_pos rfl] at p3
      rw [if_pos (show (true && true) = true from rfl)] at q2
      exact .inl ⟨(1, 2), ⟨by decide, by decide⟩, runDef_err rfl (ph_pre n s1 i0 s2 (sSeq_err p3)), runDef_to (f := .rt (.dat (.tup [natI 1, natI 2]))) rfl (qh_pre sa s1 i0 s2 (sSeq_rt q2)) rfl⟩
    · rw [decide_eq_false c1] at p3 q2
      have p3 := p3 (.str x)
      have q2 := q2 (.str x)
      rw [if_neg (by simp)] at p3 q2
      have p45 := fun x0 x1 x3 x5 x6 => ph45 (TT := .tup []) nl gl x0 x1 x3 x5 x6
      have q45 := fun x4 ho => qh45 (x4 := x4) ho nl gl j0 nN tu rfl (.dat (bellsD l)) (.dat (.str x)) (.own (.lst ((allC (l.map (·.1))).map sD))) .un .un
      have q3 := qh3_no (B := bellsD l) (P := .str x) (LL := .lst ((l0 :: lr).map .str)) (SS := .lst ((allC (l.map (·.1))).map sD)) j0 nN
      obtain ⟨Γ', q45⟩ := q45 _ (.inl rfl)
      by_cases c2 : 1 < (l0 :: lr).length
      · rw [decide_eq_true c2] at p45 q45
        rw [if_pos rfl] at q45
        have p45 := p45 (.dat (towerD l)) (.dat (.str x)) (.own (.lst ((w0 :: r).map .str))) .un .un
        rw [if_pos rfl] at p45
        exact .inl ⟨(2, 1), ⟨by decide, by decide⟩, runDef_err rfl (ph_pre n s1 i0 s2 (sSeq_to p3 p45)), runDef_to (f := .rt (.dat (.tup [natI 2, natI 1]))) rfl (qh_pre sa s1 i0 s2 (sSeq_to q2 (sSeq_to q3 q45))) rfl⟩
      · rw [decide_eq_false c2] at p45 q45
        rw [if_neg (by simp)] at q45
        have p45 := p45 (.dat (towerD l)) (.dat (.str x)) (.own (.lst ((w0 :: r).map .str))) .un .un
        rw [if_neg (by simp)] at p45
        exact .inr ⟨[], fun _ h => (by cases h), by decide, runDef_to (f := .rt (.dat (.tup []))) rfl (ph_pre n s1 i0 s2 (sSeq_to p3 p45)) rfl, runDef_to (f := .rt (.own (.lst [.tup []]))) rfl (qh_pre sa s1 i0 s2 (sSeq_to q2 (sSeq_to q3 q45))) rfl⟩
  · rw [decide_eq_false c] at eN nN q2
    have q2 := q2 (.str x)
    rw [if_neg (by simp)] at q2
    cases hf : fo (stH (l.map (·.1))) 0 () (w0 :: r) with
    | error p =>
      rw [hf] at lp1 lp2
      obtain ⟨Γ1, e1⟩ := lp1
      obtain ⟨Γ2, e2⟩ := lp2
      exact .inl ⟨p, fo_sm _ _ 0 p (by omega) hf, runDef_err rfl (ph_pre n s1 i0 s2 (sSeq_err (ph3_er j0 eN en e1))), runDef_to (f := .rt (.dat (.tup [natI p.1, natI p.2]))) rfl (qh_pre sa s1 i0 s2 (sSeq_to q2 (sSeq_rt (qh3_go j0 nN en e2)))) rfl⟩
    | ok u =>
      rw [hf] at lp1 lp2
      obtain ⟨Γ1, e1, y5, y6, rfl⟩ := lp1
      obtain ⟨Γ2, e2, z5, z6, rfl⟩ := lp2
      have p3 := ph3_ok j0 eN en e1 tu
      have q3 := qh3_go j0 nN en e2
      have p45 := ph45 (TT := .tup ((w0 :: r).map .str)) nl gl (.dat (towerD l)) (.dat (.str x)) (.dat (.lst ((w0 :: r).map .str))) y5 y6
      obtain ⟨Γ', q45⟩ := qh45 (x4 := .dat (.lst ((w0 :: r).map .str))) (.inr rfl) nl gl j0 nN tu rfl (.dat (bellsD l)) (.dat (.str x)) (.own (.lst ((allC (l.map (·.1))).map sD))) z5 z6
      by_cases c2 : 1 < (l0 :: lr).length
      · rw [decide_eq_true c2, if_pos rfl] at p45 q45
        exact .inl ⟨(2, 1), ⟨by decide, by decide⟩, runDef_err rfl (ph_pre n s1 i0 s2 (sSeq_to p3 p45)), runDef_to (f := .rt (.dat (.tup [natI 2, natI 1]))) rfl (qh_pre sa s1 i0 s2 (sSeq_to q2 (sSeq_to q3 q45))) rfl⟩
      · rw [decide_eq_false c2, if_neg (by simp)] at p45 q45
        obtain ⟨g1, g2⟩ := fo_good _ _ 0 (by omega) hf
        exact .inr ⟨w0 :: r, g1, by omega, runDef_to (f := .rt (.dat (.tup ((w0 :: r).map .str)))) rfl (ph_pre n s1 i0 s2 (sSeq_to p3 p45)) rfl, runDef_to (f := .rt (.own (.lst [.tup ((w0 :: r).map .str)]))) rfl (qh_pre sa s1 i0 s2 (sSeq_to q2 (sSeq_to q3 q45))) rfl⟩
end Law
namespace Law
open PySem DL G FW
theorem okD_bells {l : List (Nat × Int)} : okD 59 (bellsD l) = true := by
  refine List.all_eq_true.mpr fun d hd => ?_
  obtain ⟨q, _, rfl⟩ := List.mem_map.mp hd
  rfl
theorem fine_bells {l : List (Nat × Int)} (b : BellsT l) : fine (bellsD l) = true := by
  refine fineL_all fun d hd => ?_
  obtain ⟨q, hq, rfl⟩ := List.mem_map.mp hd
  have h1 := b.abc q hq
  have h2 := b.per q hq
  show (decide (q.1 < 4294967296) && true && (fine (.int q.2) && true)) = true
  rw [decide_eq_true (by omega), fine_int (by omega) (by omega)]; rfl
theorem wt_bells {l : List (Nat × Int)} (b : BellsT l) : wt (bellsD l) ≤ 10000 := by
  have h := wtL_le (ds := l.map bellD) (n := 1940) fun d hd => by
    obtain ⟨q, hq, rfl⟩ := List.mem_map.mp hd
    exact Nat.le_refl 1940
  have := b.hi
  rw [List.length_map] at h
  show wtL (l.map bellD) + 3 ≤ 10000
  omega
noncomputable abbrev bp0 : M Fl := (sPar [2, 3] (rCons (sCallM (argM 2 F_law_next) (sVar 0) (sCons (cap (sBin addD (sCB lenF (oCons (sVar 1) oNil)) (sK (.int 1)))) sNil)) (rCons (sCallM (argM 2 F_law_next) (sVar 0) (sCons (cap (sK (.int 8))) sNil)) rNil)))
noncomputable abbrev bp1 : M Fl := (sSet 4 (sBin ixD (sLst (sCons (cap (sK (.str " "))) (sCons (cap (sK (.str "\n"))) (sCons (cap (sK (.str "0"))) (sCons (cap (sK (.str "a"))) (sCons (cap (sK (.str "z"))) (sCons (cap (sK (.str "3"))) (sCons (cap (sK (.str "?"))) (sCons (cap (sK (.str "	"))) (sCons (cap (sK (.str "b"))) (sCons (cap (sK (.str "nothing"))) sNil))))))))))) (sCallM (argM 2 F_law_next) (sVar 0) (sCons (cap (sK (.int 10))) sNil))))
noncomputable abbrev bp2 : M Fl := (sSet 5 (sLst (sCons (cap (sBin addD (sBin addD (sSli (sVar 1) (ret none) (sPart (sVar 2))) (sVar 4)) (sSli (sVar 1) (sPart (sVar 2)) (ret none)))) (sCons (cap (sBin addD (sSli (sVar 1) (ret none) (sPart (sVar 2))) (sSli (sVar 1) (sPart (sBin addD (sVar 2) (sK (.int 1)))) (ret none)))) (sCons (cap (sBin addD (sBin addD (sSli (sVar 1) (ret none) (sPart (sVar 2))) (sVar 4)) (sSli (sVar 1) (sPart (sBin addD (sVar 2) (sK (.int 1)))) (ret none)))) sNil)))))
noncomputable abbrev bp3 : M Fl := (sSet 5 (sBin addD (sVar 5) (sLst (sCons (cap (sBin addD (sVar 1) (sK (.str "\nz 30")))) (sCons (cap (sBin addD (sK (.str "nothing ")) (sVar 1))) (sCons (cap (sBin addD (sVar 1) (sK (.str " nothing")))) (sCons (cap (sBin addD (sVar 1) (sVar 4))) (sCons (cap (sBin addD (sBin addD (sSli (sVar 1) (ret none) (sPart (sVar 2))) (sSli (sVar 1) (ret none) (sPart (sK (.int 1))))) (sSli (sVar 1) (sPart (sVar 2)) (ret none)))) sNil))))))))
noncomputable abbrev bp4 : M Fl := (sRet (sBin ixD (sVar 5) (sVar 3)))
def signs : List Str := [" ", "\n", "0", "a", "z", "3", "?", "\t", "b", "nothing"]
theorem signs_len : ∀ y ∈ signs, y.length ≤ 7 := by decide +kernel
theorem ix_S {ys : List Str} {i : Int} (h0 : 0 ≤ i) (h1 : i < ys.length) : ∃ y, y ∈ ys ∧ ixD (.lst (ys.map .str)) (.int i) = some (.dat (.str y)) := by
  obtain ⟨d, hd, e⟩ := ix_mem (ds := ys.map .str) h0 (by rw [List.length_map]; exact h1)
  obtain ⟨y, hy, rfl⟩ := List.mem_map.mp hd
  exact ⟨y, hy, e⟩
theorem sli_S {x : Str} (h : x.length ≤ 100000) (lo hi : Option Int) : sliF (.str x) lo hi = some (.dat (.str (L2.cutS x lo hi))) := if_pos (Nat.le_trans h (by decide))
theorem bp0_it {s s1 s2 P a v : D} {n n1 : D} (hl : lenF [P] = some (.dat n)) (ha : addD n (.int 1) = some (.dat n1)) (e1 : F_law_next s [n1] = some (.ok (.dat a), s1)) (e2 : F_law_next s1 [.int 8] = some (.ok (.dat v), s2)) (x4 x5 : Sl) : bp0 [.own s, .dat P, .un, .un, x4, x5] = some (.ok .nx, [.own s2, .dat P, .dat a, .dat v, x4, x5]) := by
  simp [bnd_ap, hl, ha, e1, e2]
theorem bp1_it {s s1 j : D} {y : Str} (e1 : F_law_next s [.int 10] = some (.ok (.dat j), s1)) (e2 : ixD (.lst (signs.map .str)) j = some (.dat (.str y))) (x1 x2 x3 x5 : Sl) : bp1 [.own s, x1, x2, x3, .un, x5] = some (.ok .nx, [.own s1, x1, x2, x3, .dat (.str y), x5]) := by
  have k : mkLst [.str " ", .str "\n", .str "0", .str "a", .str "z", .str "3", .str "?", .str "\t", .str "b", .str "nothing"] = some (.own (.lst (signs.map .str))) := rfl
  generalize D.lst (signs.map .str) = SS at *
  simp [bnd_ap, e1, e2, k]
theorem bp2_it {P y A C C1 : Str} {a : Int} {r0 r1 r2 t0 : Str} (a1 : addD (.int a) (.int 1) = some (.dat (.int (a + 1)))) (c1 : sliF (.str P) none (some a) = some (.dat (.str A))) (c2 : sliF (.str P) (some a) none = some (.dat (.str C))) (c3 : sliF (.str P) (some (a + 1)) none = some (.dat (.str C1)))
    (h1 : addD (.str A) (.str y) = some (.dat (.str t0))) (h2 : addD (.str t0) (.str C) = some (.dat (.str r0))) (h3 : addD (.str A) (.str C1) = some (.dat (.str r1))) (h4 : addD (.str t0) (.str C1) = some (.dat (.str r2))) (x0 x3 : Sl) : bp2 [x0, .dat (.str P), .dat (.int a), x3, .dat (.str y), .un] = some (.ok .nx, [x0, .dat (.str P), .dat (.int a), x3, .dat (.str y), .own (.lst ([r0, r1, r2].map .str))]) := by
  have k : mkLst [.str r0, .str r1, .str r2] = some (.own (.lst ([r0, r1, r2].map .str))) := rfl
  generalize D.lst ([r0, r1, r2].map .str) = RR at *
  generalize a + 1 = a' at *
  simp [bnd_ap, a1, c1, c2, c3, h1, h2, h3, h4, k, -addD_str, -addD_int]
theorem bp3_it {P y A C F : Str} {a : Int} {Z : D} {q0 q1 q2 q3 q4 t1 : Str} (c1 : sliF (.str P) none (some a) = some (.dat (.str A))) (c2 : sliF (.str P) (some a) none = some (.dat (.str C))) (c4 : sliF (.str P) none (some 1) = some (.dat (.str F)))
    (h0 : addD (.str P) (.str "\nz 30") = some (.dat (.str q0))) (h1 : addD (.str "nothing ") (.str P) = some (.dat (.str q1))) (h2 : addD (.str P) (.str " nothing") = some (.dat (.str q2))) (h3 : addD (.str P) (.str y) = some (.dat (.str q3))) (h5 : addD (.str A) (.str F) = some (.dat (.str t1))) (h4 : addD (.str t1) (.str C) = some (.dat (.str q4)))
    {R8 : D} (h6 : addD Z (.lst ([q0, q1, q2, q3, q4].map .str)) = some (.own R8)) (x0 x3 : Sl) : bp3 [x0, .dat (.str P), .dat (.int a), x3, .dat (.str y), .own Z] = some (.ok .nx, [x0, .dat (.str P), .dat (.int a), x3, .dat (.str y), .own R8]) := by
  have k : mkLst [.str q0, .str q1, .str q2, .str q3, .str q4] = some (.own (.lst ([q0, q1, q2, q3, q4].map .str))) := rfl
  generalize D.lst ([q0, q1, q2, q3, q4].map .str) = RR at *
  simp [bnd_ap, c1, c2, c4, h0, h1, h2, h3, h4, h5, h6, k, -addD_str]
theorem bp4_it {R8 v : D} {y : Str} (h : ixD R8 v = some (.dat (.str y))) (x0 x1 x2 x4 : Sl) : ∃ Γ', bp4 [x0, x1, x2, .dat v, x4, .own R8] = some (.ok (.rt (.dat (.str y))), [x0, x1, x2, .dat v, x4, .own R8]) ∧ Γ' = () := by
  exact ⟨(), by simp [bnd_ap, h], rfl⟩
theorem bent_page {x : Str} {s : D} {m : Nat} (hs : Src m s) (hm : m ≤ 100000) (hx : x.length ≤ 30000) : ∃ s' y, Src (m + 3) s' ∧ y.length ≤ 4 * x.length + 8 ∧ F_law_bent_page s [.str x] = some (.ok (.dat (.str y)), s') := by
  have hl : lenF [.str x] = some (.dat (.int (x.length : Nat))) := by
    show (if x.length ≤ 16777216 then _ else _) = _
    rw [if_pos (by omega)]
  have ha : addD (.int (x.length : Nat)) (.int 1) = some (.dat (.int ((x.length : Int) + 1))) := rfl
  obtain ⟨a, s1, e1, a0, a1, hs1⟩ := next_ok (n := (x.length : Int) + 1) hs (by omega) (by omega) (by omega)
  obtain ⟨v, s2, e2, v0, v1, hs2⟩ := next_ok (n := 8) hs1 (by omega) (by omega) (by omega)
  obtain ⟨j, s3, e3, j0, j1, hs3⟩ := next_ok (n := 10) hs2 (by omega) (by omega) (by omega)
  obtain ⟨y, hy, e4⟩ := ix_S (ys := signs) (i := j) j0 (by show j < 10; omega)
  have ly := signs_len y hy
  have lA := L2.cutS_length x none (some a)
  have lC := L2.cutS_length x (some a) none
  have lC1 := L2.cutS_length x (some (a + 1)) none
  have lF := L2.cutS_length x none (some 1)
  have c1 := sli_S (x := x) (by omega) none (some a)
  have c2 := sli_S (x := x) (by omega) (some a) none
  have c3 := sli_S (x := x) (by omega) (some (a + 1)) none
  have c4 := sli_S (x := x) (by omega) none (some 1)
  generalize L2.cutS x none (some a) = A at *
  generalize L2.cutS x (some a) none = C at *
  generalize L2.cutS x (some (a + 1)) none = C1 at *
  generalize L2.cutS x none (some 1) = F at *
  have z0 : ("\nz 30" : Str).length = 5 := by decide
  have z1 : ("nothing " : Str).length = 8 := by decide
  have z2 : (" nothing" : Str).length = 8 := by decide
  have h1 := add_str (x := A) (y := y) (by omega)
  have l1 : (A ++ y).length = A.length + y.length := Str.length_append _ _
  have h2 := add_str (x := A ++ y) (y := C) (by omega)
  have h3 := add_str (x := A) (y := C1) (by omega)
  have h4 := add_str (x := A ++ y) (y := C1) (by omega)
  have g0 := add_str (x := x) (y := "\nz 30") (by omega)
  have g1 := add_str (x := "nothing ") (y := x) (by omega)
  have g2 := add_str (x := x) (y := " nothing") (by omega)
  have g3 := add_str (x := x) (y := y) (by omega)
  have g5 := add_str (x := A) (y := F) (by omega)
  have l2 : (A ++ F).length = A.length + F.length := Str.length_append _ _
  have g4 := add_str (x := A ++ F) (y := C) (by omega)
  have lens : ∀ z ∈ [A ++ y ++ C, A ++ C1, A ++ y ++ C1, x ++ "\nz 30", "nothing " ++ x, x ++ " nothing", x ++ y, A ++ F ++ C], z.length ≤ 4 * x.length + 8 := by
    intro z hz
    simp only [List.mem_cons, List.not_mem_nil, or_false] at hz
    rcases hz with rfl | rfl | rfl | rfl | rfl | rfl | rfl | rfl <;> simp only [Str.length_append] <;> omega
  obtain ⟨z, hz, e5⟩ := ix_S (ys := [A ++ y ++ C, A ++ C1, A ++ y ++ C1, x ++ "\nz 30", "nothing " ++ x, x ++ " nothing", x ++ y, A ++ F ++ C]) (i := v) v0 (by show v < 8; omega)
  have h6 : addD (.lst ([A ++ y ++ C, A ++ C1, A ++ y ++ C1].map .str)) (.lst ([x ++ "\nz 30", "nothing " ++ x, x ++ " nothing", x ++ y, A ++ F ++ C].map .str)) = some (.own (.lst ([A ++ y ++ C, A ++ C1, A ++ y ++ C1, x ++ "\nz 30", "nothing " ++ x, x ++ " nothing", x ++ y, A ++ F ++ C].map .str))) := by
    rw [addD_lst, if_pos (by show 3 + 5 ≤ big; decide)]
    rfl
  have lz := lens z hz
  refine ⟨s3, z, hs3, lz, ?_⟩
  have a1' : addD (.int a) (.int 1) = some (.dat (.int (a + 1))) := rfl
  have b0 := bp0_it (P := .str x) hl ha e1 e2 .un .un
  have b1 := bp1_it (y := y) e3 e4 (.dat (.str x)) (.dat (.int a)) (.dat (.int v)) .un
  have b2 := bp2_it a1' c1 c2 c3 h1 h2 h3 h4 (.own s3) (.dat (.int v))
  have b3 := bp3_it c1 c2 c4 g0 g1 g2 g3 g5 g4 h6 (.own s3) (.dat (.int v))
  obtain ⟨_, b4, _⟩ := bp4_it e5 (.own s3) (.dat (.str x)) (.dat (.int a)) (.dat (.str y))
  refine runDefM_to (f := .rt (.dat (.str z))) rfl (sSeq_to b0 (sSeq_to b1 (sSeq_to b2 (sSeq_to b3 b4)))) rfl
end Law
namespace Law
open PySem DL G FW
theorem lam_er {is : List Nat} {cb : M Rf} {FL : D → Ans → Option Ans} {Γ Γ1 Γ2 : List Sl} {ds : List D} {e : D} {r : Rf} (h0 : frz is Γ = Γ1) (h1 : capt is Γ1 = some ds) (h2 : cb (putL is ds (List.replicate Γ.length .un)) = some (.error e, Γ2)) (h3 : ∀ d0, FL d0 (.error e) = some (.ok r)) : sLam is cb FL Γ = liftX (some (.ok r)) Γ1 := by
  subst h0
  unfold sLam
  rw [h1]
  dsimp only
  have : outL cb (putL is ds (List.replicate Γ.length .un)) = some (.error e) := by
    unfold outL
    rw [h2]
  rw [this]
  dsimp only
  rw [anyD_eq h3]
theorem lam_dt {is : List Nat} {cb : M Rf} {FL : D → Ans → Option Ans} {Γ Γ1 Γ2 : List Sl} {ds : List D} {d : D} {r : Ans} (h0 : frz is Γ = Γ1) (h1 : capt is Γ1 = some ds) (h2 : cb (putL is ds (List.replicate Γ.length .un)) = some (.ok (.dat d), Γ2)) (h3 : ∀ d0, FL d0 (.ok (.dat d)) = some r) : sLam is cb FL Γ = liftX (some r) Γ1 := by
  subst h0
  unfold sLam
  rw [h1]
  dsimp only
  have : outL cb (putL is ds (List.replicate Γ.length .un)) = some (.ok (.dat d)) := by
    unfold outL
    rw [h2]
  rw [this]
  dsimp only
  rw [anyD_eq h3]
end Law
namespace Law
open PySem DL G FW
noncomputable abbrev lb0 : M Fl := (sSet 2 (sCallF (argN 2 F_law_source) (sCons (cap (sVar 0)) (sCons (cap (sVar 1)) sNil))))
noncomputable abbrev lbI : M (List D) := (sIter (sTup (sCons (cap (sFg (sCallM (argM 2 F_law_bells) (sVar 2) (sCons (cap (sK (.int 80))) sNil)))) (sCons (cap (sFg (sCallM (argM 1 F_law_great_bells) (sVar 2) sNil))) sNil))))
noncomputable abbrev lc0 : M Fl := (sPar [4, 5] (rCons (sCallF (makeF 6 2 F_Tower___init) (sCons (cap (sVar 3)) sNil)) (rCons (sCallF (argN 3 F_law_chimes) (sCons (cap (sVar 3)) (sCons (cap (sCallM (argM 2 F_law_row) (sVar 2) (sCons (cap (sVar 3)) sNil))) (sCons (cap (sCallM (argM 2 F_law_next) (sVar 2) (sCons (cap (sK (.int 9))) sNil))) sNil)))) rNil)))
noncomputable abbrev lcB : M Fl := (sSeq (sPar [4, 5] (rCons (sCallF (makeF 6 2 F_Tower___init) (sCons (cap (sVar 3)) sNil)) (rCons (sCallF (argN 3 F_law_chimes) (sCons (cap (sVar 3)) (sCons (cap (sCallM (argM 2 F_law_row) (sVar 2) (sCons (cap (sVar 3)) sNil))) (sCons (cap (sCallM (argM 2 F_law_next) (sVar 2) (sCons (cap (sK (.int 9))) sNil))) sNil)))) rNil)))
 (sFor (sRng range1 (sCons (cap (sK (.int 8))) sNil)) (gSet 6)
 (sSeq (sPar [7, 8] (rCons (sCallF (argN 1 F_tower_text) (sCons (cap (sVar 4)) sNil)) (rCons (sCallF (argN 2 F_heard_text) (sCons (cap (sVar 4)) (sCons (cap (sVar 5)) sNil))) rNil)))
 (sSeq (sFor (sRng range1 (sCons (cap (sBin divD (sBin addD (sVar 6) (sK (.int 1))) (sK (.int 2)))) sNil)) (gSet 9)
 (sSeq (sSet 7 (sCallM (argM 2 F_law_bent_page) (sVar 2) (sCons (cap (sVar 7)) sNil)))
 (sSet 8 (sCallM (argM 2 F_law_bent_page) (sVar 2) (sCons (cap (sVar 8)) sNil)))))
 (sSeq (sPar [10, 11] (rCons (sLam [7] (sCallF (argN 1 F_read_tower) (sCons (cap (sVar 7)) sNil)) F_law_read_told) (rCons (sCallF (argN 1 F_law_tower_read) (sCons (cap (sVar 7)) sNil)) rNil)))
 (sSeq (sIf (sB (sBin neD (sCB reprF (oCons (sIfE (sB (sCB isiG (oCons (sVar 10) (oCons (sK (.ty "tuple")) oNil)))) (sVar 10) (sLst (sCons (cap (sProp 6 F_Tower_bells (sBin ixD (sVar 10) (sK (.int 0))))) sNil))) oNil)) (sCB reprF (oCons (sVar 11) oNil))))
 (sRet (sK (.bl false)))
 sSkip)
 (sSeq (sSet 10 (sLam [4, 8] (sCallF (argN 2 F_read_heard) (sCons (cap (sVar 4)) (sCons (cap (sVar 8)) sNil))) F_law_read_told))
 (sIf (sB (sBin neD (sCB reprF (oCons (sVar 10) oNil)) (sCB reprF (oCons (sCallF (argN 2 F_law_heard_read) (sCons (cap (sVar 3)) (sCons (cap (sVar 8)) sNil))) oNil))))
 (sRet (sK (.bl false)))
 sSkip))))))))
noncomputable abbrev ldB : M Fl := (sSeq (sPar [7, 8] (rCons (sCallF (argN 1 F_tower_text) (sCons (cap (sVar 4)) sNil)) (rCons (sCallF (argN 2 F_heard_text) (sCons (cap (sVar 4)) (sCons (cap (sVar 5)) sNil))) rNil)))
 (sSeq (sFor (sRng range1 (sCons (cap (sBin divD (sBin addD (sVar 6) (sK (.int 1))) (sK (.int 2)))) sNil)) (gSet 9)
 (sSeq (sSet 7 (sCallM (argM 2 F_law_bent_page) (sVar 2) (sCons (cap (sVar 7)) sNil)))
 (sSet 8 (sCallM (argM 2 F_law_bent_page) (sVar 2) (sCons (cap (sVar 8)) sNil)))))
 (sSeq (sPar [10, 11] (rCons (sLam [7] (sCallF (argN 1 F_read_tower) (sCons (cap (sVar 7)) sNil)) F_law_read_told) (rCons (sCallF (argN 1 F_law_tower_read) (sCons (cap (sVar 7)) sNil)) rNil)))
 (sSeq (sIf (sB (sBin neD (sCB reprF (oCons (sIfE (sB (sCB isiG (oCons (sVar 10) (oCons (sK (.ty "tuple")) oNil)))) (sVar 10) (sLst (sCons (cap (sProp 6 F_Tower_bells (sBin ixD (sVar 10) (sK (.int 0))))) sNil))) oNil)) (sCB reprF (oCons (sVar 11) oNil))))
 (sRet (sK (.bl false)))
 sSkip)
 (sSeq (sSet 10 (sLam [4, 8] (sCallF (argN 2 F_read_heard) (sCons (cap (sVar 4)) (sCons (cap (sVar 8)) sNil))) F_law_read_told))
 (sIf (sB (sBin neD (sCB reprF (oCons (sVar 10) oNil)) (sCB reprF (oCons (sCallF (argN 2 F_law_heard_read) (sCons (cap (sVar 3)) (sCons (cap (sVar 8)) sNil))) oNil))))
 (sRet (sK (.bl false)))
 sSkip))))))
noncomputable abbrev ld0 : M Fl := (sPar [7, 8] (rCons (sCallF (argN 1 F_tower_text) (sCons (cap (sVar 4)) sNil)) (rCons (sCallF (argN 2 F_heard_text) (sCons (cap (sVar 4)) (sCons (cap (sVar 5)) sNil))) rNil)))
noncomputable abbrev ld1 : M Fl := (sFor (sRng range1 (sCons (cap (sBin divD (sBin addD (sVar 6) (sK (.int 1))) (sK (.int 2)))) sNil)) (gSet 9)
 (sSeq (sSet 7 (sCallM (argM 2 F_law_bent_page) (sVar 2) (sCons (cap (sVar 7)) sNil)))
 (sSet 8 (sCallM (argM 2 F_law_bent_page) (sVar 2) (sCons (cap (sVar 8)) sNil)))))
noncomputable abbrev ld2 : M Fl := (sPar [10, 11] (rCons (sLam [7] (sCallF (argN 1 F_read_tower) (sCons (cap (sVar 7)) sNil)) F_law_read_told) (rCons (sCallF (argN 1 F_law_tower_read) (sCons (cap (sVar 7)) sNil)) rNil)))
noncomputable abbrev ld3 : M Fl := (sIf (sB (sBin neD (sCB reprF (oCons (sIfE (sB (sCB isiG (oCons (sVar 10) (oCons (sK (.ty "tuple")) oNil)))) (sVar 10) (sLst (sCons (cap (sProp 6 F_Tower_bells (sBin ixD (sVar 10) (sK (.int 0))))) sNil))) oNil)) (sCB reprF (oCons (sVar 11) oNil))))
 (sRet (sK (.bl false)))
 sSkip)
noncomputable abbrev ld4 : M Fl := (sSet 10 (sLam [4, 8] (sCallF (argN 2 F_read_heard) (sCons (cap (sVar 4)) (sCons (cap (sVar 8)) sNil))) F_law_read_told))
noncomputable abbrev ld5 : M Fl := (sIf (sB (sBin neD (sCB reprF (oCons (sVar 10) oNil)) (sCB reprF (oCons (sCallF (argN 2 F_law_heard_read) (sCons (cap (sVar 3)) (sCons (cap (sVar 8)) sNil))) oNil))))
 (sRet (sK (.bl false)))
 sSkip)
noncomputable abbrev laB : M Fl := (sSeq (sSet 7 (sCallM (argM 2 F_law_bent_page) (sVar 2) (sCons (cap (sVar 7)) sNil)))
 (sSet 8 (sCallM (argM 2 F_law_bent_page) (sVar 2) (sCons (cap (sVar 8)) sNil))))
theorem told_P (d0 a c : D) : F_law_read_told d0 (.error (xP a c)) = some (.ok (.dat (.tup [a, c]))) := by
  have em : m_ParseError k_ParseError = some true := rfl
  have ef : excFld k_ParseError "line" (xP a c) = some (.dat a) := rfl
  have eg : excFld k_ParseError "word" (xP a c) = some (.dat c) := rfl
  simp [F_law_read_told, runDef_ap, c_law_read_told, st0, bnd_ap, sAct_ok, em, ef, eg, isN, mkTup_ok]
theorem told_O (d0 v : D) : F_law_read_told d0 (.ok (.own v)) = some (.ok (.own (.lst [v]))) := by
  simp [F_law_read_told, runDef_ap, c_law_read_told, st0, bnd_ap, sAct_ok, isN, mkTup_ok, mkLst_ok]
theorem told_D (d0 v : D) : F_law_read_told d0 (.ok (.dat v)) = some (.ok (.own (.lst [v]))) := by
  simp [F_law_read_told, runDef_ap, c_law_read_told, st0, bnd_ap, sAct_ok, isN, mkTup_ok, mkLst_ok]
theorem lam_ow {is : List Nat} {cb : M Rf} {FL : D → Ans → Option Ans} {Γ Γ1 Γ2 : List Sl} {ds : List D} {d : D} {r : Ans} (h0 : frz is Γ = Γ1) (h1 : capt is Γ1 = some ds) (h2 : cb (putL is ds (List.replicate Γ.length .un)) = some (.ok (.own d), Γ2)) (h3 : ∀ d0, FL d0 (.ok (.own d)) = some r) : sLam is cb FL Γ = liftX (some r) Γ1 := by
  subst h0
  unfold sLam
  rw [h1]
  dsimp only
  have : outL cb (putL is ds (List.replicate Γ.length .un)) = some (.ok (.own d)) := by
    unfold outL
    rw [h2]
  rw [this]
  dsimp only
  rw [anyD_eq h3]
theorem err_repr {p : Nat × Nat} (h1 : p.1 ≤ 1000) (h2 : p.2 ≤ 1000) : ∃ X, reprF [.tup [natI p.1, natI p.2]] = some (.dat (.str X)) := by
  refine ⟨_, reprF_ok rfl (fineL_all fun d hd => ?_) (by show wtL [natI p.1, natI p.2] + 3 ≤ 16777216; show 1921 + 2 + (1921 + 2 + 0) + 3 ≤ 16777216; decide)⟩
  rcases List.mem_cons.mp hd with rfl | hd
  · exact fine_abs (by show ((p.1 : Nat) : Int).natAbs < _; omega)
  · rw [List.mem_singleton.mp hd]
    exact fine_abs (by show ((p.2 : Nat) : Int).natAbs < _; omega)
theorem one_fine {d : D} (h : fine d = true) : fine (.lst [d]) = true := fineL_all fun e he => by rw [List.mem_singleton.mp he]; exact h
theorem bells_repr {l : List (Nat × Int)} (b : BellsT l) : ∃ X, reprF [.lst [bellsD l]] = some (.dat (.str X)) := by
  refine ⟨_, reprF_ok ?_ (one_fine (fine_bells b)) ?_⟩
  · show ([bellsD l].all (okD 59)) = true
    rw [List.all_cons, okD_bells]; rfl
  · have := wt_bells b
    simp only [wt, wtL]
    omega
theorem words_repr {l : List (Nat × Int)} (b : BellsT l) {ws : List Str} (h : ∀ y ∈ ws, y ∈ allS (l.map (·.1))) (hl : ws.length ≤ 200) : ∃ X, reprF [.lst [.tup (ws.map .str)]] = some (.dat (.str X)) := by
  have key : ∀ y ∈ ws, fine (.str y) = true ∧ y.length ≤ 5 := fun y hy => by
    have o := (in_allS (nd_bells b) y).mp (h y hy)
    refine ⟨?_, ?_⟩
    · show y.cps.toList.all (fun c => decide (c < 4294967296)) = true
      refine List.all_eq_true.mpr fun c hc => ?_
      obtain ⟨q, hq, rfl⟩ := List.mem_map.mp (o.sub hc)
      have := b.abc q hq
      exact decide_eq_true (by omega)
    · have := List.length_filter_le (fun c => decide (c ∈ y.cps.toList)) (l.map (·.1))
      rw [o.is, List.length_map, ← len_list] at this
      have := b.hi
      omega
  refine ⟨_, reprF_ok ?_ (one_fine (fineL_all fun d hd => ?_)) ?_⟩
  · show (((ws.map D.str).all (okD 58)) && true) = true
    rw [List.all_eq_true.mpr fun d hd => ?_]
    · rfl
    · obtain ⟨y, _, rfl⟩ := List.mem_map.mp hd
      rfl
  · obtain ⟨y, hy, rfl⟩ := List.mem_map.mp hd
    exact (key y hy).1
  · have := wtL_le (ds := ws.map .str) (n := 52) fun d hd => by
      obtain ⟨y, hy, rfl⟩ := List.mem_map.mp hd
      have := (key y hy).2
      show 10 * y.length + 2 ≤ 52
      omega
    rw [List.length_map] at this
    have h3 : ws.length * 54 ≤ 200 * 54 := Nat.mul_le_mul_right _ hl
    simp only [wt, wtL]
    omega
def OD (x : Sl) (T : D) : Prop := x = .own T ∨ x = .dat T
theorem lb0_it {N k s : D} (e : F_law_source [N, k] = some (.ok (.own s))) (x3 x4 x5 x6 x7 x8 x9 x10 x11 : Sl) : lb0 [.dat N, .dat k, x2, x3, x4, x5, x6, x7, x8, x9, x10, x11] = some (.ok .nx, [.dat N, .dat k, .own s, x3, x4, x5, x6, x7, x8, x9, x10, x11]) := by
  simp [bnd_ap, e]
theorem lbI_it {s s1 s2 : D} {Z1 Z2 : List D} (e1 : F_law_bells s [.int 80] = some (.ok (.dat (.kn Z1)), s1)) (e2 : F_law_great_bells s1 [] = some (.ok (.dat (.kn Z2)), s2)) (x0 x1 x3 x4 x5 x6 x7 x8 x9 x10 x11 : Sl) : lbI [x0, x1, .own s, x3, x4, x5, x6, x7, x8, x9, x10, x11] = some (.ok [.tup Z1, .tup Z2], [x0, x1, .own s2, x3, x4, x5, x6, x7, x8, x9, x10, x11]) := by
  simp [bnd_ap, e1, e2, mkTup_ok]
theorem lc0_it {s s1 s2 B T R n H : D} (e0 : F_Tower___init (.ins k_Tower [] []) [B] = some (.ok (.dat .non), T)) (e1 : F_law_row s [B] = some (.ok (.dat R), s1)) (e2 : F_law_next s1 [.int 9] = some (.ok (.dat n), s2)) (e3 : F_law_chimes [B, R, n] = some (.ok (.dat H))) (x0 x1 x6 x7 x8 x9 x10 x11 : Sl) : lc0 [x0, x1, .own s, .dat B, x4, x5, x6, x7, x8, x9, x10, x11] = some (.ok .nx, [x0, x1, .own s2, .dat B, .own T, .dat H, x6, x7, x8, x9, x10, x11]) := by
  simp [bnd_ap, e0, e1, e2, e3]
theorem ld0_it {T H : D} {p q : Str} {x4 : Sl} (o : OD x4 T) (e1 : F_tower_text [T] = some (.ok (.dat (.str p)))) (e2 : F_heard_text [T, H] = some (.ok (.dat (.str q)))) (x0 x1 x2 x3 x6 x9 x10 x11 : Sl) : ld0 [x0, x1, x2, x3, x4, .dat H, x6, x7, x8, x9, x10, x11] = some (.ok .nx, [x0, x1, x2, x3, .dat T, .dat H, x6, .dat (.str p), .dat (.str q), x9, x10, x11]) := by
  rcases o with rfl | rfl <;> simp [bnd_ap, e1, e2]
theorem la_it {s s1 s2 : D} {p q p1 q1 : Str} (e1 : F_law_bent_page s [.str p] = some (.ok (.dat (.str p1)), s1)) (e2 : F_law_bent_page s1 [.str q] = some (.ok (.dat (.str q1)), s2)) (x0 x1 x3 x4 x5 x6 x9 x10 x11 : Sl) : laB [x0, x1, .own s, x3, x4, x5, x6, .dat (.str p), .dat (.str q), x9, x10, x11] = some (.ok .nx, [x0, x1, .own s2, x3, x4, x5, x6, .dat (.str p1), .dat (.str q1), x9, x10, x11]) := by
  refine sSeq_to (Γ' := [x0, x1, .own s1, x3, x4, x5, x6, .dat (.str p1), .dat (.str q), x9, x10, x11]) (by simp [bnd_ap, e1]) (by simp [bnd_ap, e2])
theorem half : ∀ t : Nat, t < 8 → divD (natI (t + 1)) (.int 2) = some (.dat (natI ((t + 1) / 2))) := fun t ht => by
  have := divD_ok (i := ((t + 1 : Nat) : Int)) (j := 2) (by decide) (by decide)
  exact this
theorem ld1_ok {t m : Nat} {s : D} {p q : Str} (ht : t < 8) (hs : Src m s) (hm : m ≤ 10000) (hp : p.length ≤ 100) (hq : q.length ≤ 100) (x0 x1 x3 x4 x5 x9 x10 x11 : Sl) : Ev ld1 [x0, x1, .own s, x3, x4, x5, .dat (natI t), .dat (.str p), .dat (.str q), x9, x10, x11] fun f Γ' => f = .nx ∧ ∃ (s' : D) (p' q' : Str) (z9 : Sl), Src (m + 24) s' ∧ p'.length ≤ 100000 ∧ q'.length ≤ 100000 ∧ Γ' = [x0, x1, (.own s'), x3, x4, x5, .dat (natI t), (.dat (.str p')), (.dat (.str q')), z9, x10, x11] := by
  have a1 := add_one t
  have h := half t ht
  have hr := range1_n (n := (t + 1) / 2) (by omega)
  have hn : (t + 1) / 2 ≤ 4 := by omega
  refine ev_for (ds := (List.range ((t + 1) / 2)).map natI) (Γ1 := [x0, x1, .own s, x3, x4, x5, .dat (natI t), .dat (.str p), .dat (.str q), x9, x10, x11]) (fun i Γ => i ≤ (t + 1) / 2 → ∃ (s' : D) (p' q' : Str) (z9 : Sl), Src (m + 6 * i) s' ∧ p'.length ≤ 100 * 5 ^ i ∧ q'.length ≤ 100 * 5 ^ i ∧ Γ = [x0, x1, (.own s'), x3, x4, x5, .dat (natI t), (.dat (.str p')), (.dat (.str q')), z9, x10, x11]) (sRng_to (ds := [natI ((t + 1) / 2)]) (by
    generalize natI ((t + 1) / 2) = hh at *
    generalize natI (t + 1) = t1 at *
    generalize natI t = t0 at *
    simp [bnd_ap, a1, h]) hr) (fun _ => ⟨s, p, q, x9, hs, by omega, by omega, rfl⟩) (fun i d hd Γ hi => ?_) fun Γ hi => ?_
  · have hlt : i < (t + 1) / 2 := by
      have := (List.getElem?_eq_some_iff.mp hd).1
      simpa using this
    obtain ⟨s1, p1, q1, z9, h1, h2, h3, rfl⟩ := hi (by omega)
    have pw : 5 ^ i ≤ 5 ^ 3 := Nat.pow_le_pow_right (by decide) (by omega)
    have p0 : 1 ≤ 5 ^ i := Nat.one_le_pow _ _ (by decide)
    obtain ⟨s2, p2, h4, h5, e1⟩ := bent_page h1 (by omega) (x := p1) (by omega)
    obtain ⟨s3, q2, h6, h7, e2⟩ := bent_page h4 (by omega) (x := q1) (by omega)
    refine ⟨[x0, x1, (.own s1), x3, x4, x5, .dat (natI t), (.dat (.str p1)), (.dat (.str q1)), .dat d, x10, x11], rfl, ev_eq (la_it e1 e2 _ _ _ _ _ _ _ _ _) ⟨rfl, fun _ => ⟨s3, p2, q2, .dat d, ?_, ?_, ?_, rfl⟩⟩⟩
    · rw [show m + 6 * (i + 1) = m + 6 * i + 3 + 3 by omega]; exact h6
    · rw [Nat.pow_succ]; omega
    · rw [Nat.pow_succ]; omega
  · rw [List.length_map, List.length_range] at hi
    obtain ⟨s1, p1, q1, z9, h1, h2, h3, rfl⟩ := hi (Nat.le_refl _)
    have pw : 5 ^ ((t + 1) / 2) ≤ 5 ^ 4 := Nat.pow_le_pow_right (by decide) hn
    exact ⟨rfl, s1, p1, q1, z9, h1.mono (by omega), by omega, by omega, rfl⟩
noncomputable abbrev lm1 : M Rf := (sLam [7] (sCallF (argN 1 F_read_tower) (sCons (cap (sVar 7)) sNil)) F_law_read_told)
noncomputable abbrev lm2 : M Rf := (sLam [4, 8] (sCallF (argN 2 F_read_heard) (sCons (cap (sVar 4)) (sCons (cap (sVar 8)) sNil))) F_law_read_told)
theorem lm1_er {P a c V : D} (e : F_read_tower [P] = some (.error (xP a c))) (x0 x1 x2 x3 x4 x5 x6 x8 x9 x10 x11 : Sl) : lm1 [x0, x1, x2, x3, x4, x5, x6, .dat P, x8, x9, x10, x11] = some (.ok (.dat (.tup [a, c])), [x0, x1, x2, x3, x4, x5, x6, .dat P, x8, x9, x10, x11]) := by
  have h2 : (sCallF (argN 1 F_read_tower) (sCons (cap (sVar 7)) sNil)) [.un, .un, .un, .un, .un, .un, .un, .dat P, .un, .un, .un, .un] = some (.error (xP a c), [.un, .un, .un, .un, .un, .un, .un, .dat P, .un, .un, .un, .un]) := by simp [bnd_ap, e]
  exact (lam_er (is := [7]) (ds := [P]) (Γ1 := [x0, x1, x2, x3, x4, x5, x6, .dat P, x8, x9, x10, x11]) (Γ2 := [.un, .un, .un, .un, .un, .un, .un, .dat P, .un, .un, .un, .un]) rfl rfl h2 fun d0 => told_P d0 a c).trans rfl
theorem lm1_ow {P a c V : D} (e : F_read_tower [P] = some (.ok (.own V))) (x0 x1 x2 x3 x4 x5 x6 x8 x9 x10 x11 : Sl) : lm1 [x0, x1, x2, x3, x4, x5, x6, .dat P, x8, x9, x10, x11] = some (.ok (.own (.lst [V])), [x0, x1, x2, x3, x4, x5, x6, .dat P, x8, x9, x10, x11]) := by
  have h2 : (sCallF (argN 1 F_read_tower) (sCons (cap (sVar 7)) sNil)) [.un, .un, .un, .un, .un, .un, .un, .dat P, .un, .un, .un, .un] = some (.ok (.own V), [.un, .un, .un, .un, .un, .un, .un, .dat P, .un, .un, .un, .un]) := by simp [bnd_ap, e]
  exact (lam_ow (is := [7]) (ds := [P]) (Γ1 := [x0, x1, x2, x3, x4, x5, x6, .dat P, x8, x9, x10, x11]) (Γ2 := [.un, .un, .un, .un, .un, .un, .un, .dat P, .un, .un, .un, .un]) rfl rfl h2 fun d0 => told_O d0 V).trans rfl
theorem lm2_er {T P a c V : D} (e : F_read_heard [T, P] = some (.error (xP a c))) (x0 x1 x2 x3 x5 x6 x7 x9 x10 x11 : Sl) : lm2 [x0, x1, x2, x3, .dat T, x5, x6, x7, .dat P, x9, x10, x11] = some (.ok (.dat (.tup [a, c])), [x0, x1, x2, x3, .dat T, x5, x6, x7, .dat P, x9, x10, x11]) := by
  have h2 : (sCallF (argN 2 F_read_heard) (sCons (cap (sVar 4)) (sCons (cap (sVar 8)) sNil))) [.un, .un, .un, .un, .dat T, .un, .un, .un, .dat P, .un, .un, .un] = some (.error (xP a c), [.un, .un, .un, .un, .dat T, .un, .un, .un, .dat P, .un, .un, .un]) := by simp [bnd_ap, e]
  exact (lam_er (is := [4, 8]) (ds := [T, P]) (Γ1 := [x0, x1, x2, x3, .dat T, x5, x6, x7, .dat P, x9, x10, x11]) (Γ2 := [.un, .un, .un, .un, .dat T, .un, .un, .un, .dat P, .un, .un, .un]) rfl rfl h2 fun d0 => told_P d0 a c).trans rfl
theorem lm2_dt {T P a c V : D} (e : F_read_heard [T, P] = some (.ok (.dat V))) (x0 x1 x2 x3 x5 x6 x7 x9 x10 x11 : Sl) : lm2 [x0, x1, x2, x3, .dat T, x5, x6, x7, .dat P, x9, x10, x11] = some (.ok (.own (.lst [V])), [x0, x1, x2, x3, .dat T, x5, x6, x7, .dat P, x9, x10, x11]) := by
  have h2 : (sCallF (argN 2 F_read_heard) (sCons (cap (sVar 4)) (sCons (cap (sVar 8)) sNil))) [.un, .un, .un, .un, .dat T, .un, .un, .un, .dat P, .un, .un, .un] = some (.ok (.dat V), [.un, .un, .un, .un, .dat T, .un, .un, .un, .dat P, .un, .un, .un]) := by simp [bnd_ap, e]
  exact (lam_dt (is := [4, 8]) (ds := [T, P]) (Γ1 := [x0, x1, x2, x3, .dat T, x5, x6, x7, .dat P, x9, x10, x11]) (Γ2 := [.un, .un, .un, .un, .dat T, .un, .un, .un, .dat P, .un, .un, .un]) rfl rfl h2 fun d0 => told_D d0 V).trans rfl
theorem str_ne (X : Str) : neD (.str X) (.str X) = some (.dat (.bl false)) := neD_refl rfl
theorem ld23_er' {P a c : D} {X : Str} (e1 : F_read_tower [P] = some (.error (xP a c))) (e2 : F_law_tower_read [P] = some (.ok (.dat (.tup [a, c])))) (hX : reprF [.tup [a, c]] = some (.dat (.str X))) (x0 x1 x2 x3 x4 x5 x6 x8 x9 : Sl) : ld2 [x0, x1, x2, x3, x4, x5, x6, .dat P, x8, x9, x10, x11] = some (.ok .nx, [x0, x1, x2, x3, x4, x5, x6, .dat P, x8, x9, .dat (.tup [a, c]), .dat (.tup [a, c])]) ∧ ld3 [x0, x1, x2, x3, x4, x5, x6, .dat P, x8, x9, .dat (.tup [a, c]), .dat (.tup [a, c])] = some (.ok .nx, [x0, x1, x2, x3, x4, x5, x6, .dat P, x8, x9, .dat (.tup [a, c]), .dat (.tup [a, c])]) := by
  have l := lm1_er (V := .non) e1 x0 x1 x2 x3 x4 x5 x6 x8 x9 x10 x11
  have i : isiG [.tup [a, c], .ty "tuple"] = some (.dat (.bl true)) := rfl
  have n := str_ne X
  unfold ld2
  unfold lm1 at l
  generalize (sLam [7] (sCallF (argN 1 F_read_tower) (sCons (cap (sVar 7)) sNil)) F_law_read_told) = LM at *
  generalize D.tup [a, c] = TT at *
  constructor <;> simp [bnd_ap, l, e2, i, hX, n]
theorem ld23_ok {P T B : D} {X : Str} (e1 : F_read_tower [P] = some (.ok (.own T))) (e2 : F_law_tower_read [P] = some (.ok (.own (.lst [B])))) (hi : isInsB k_Tower "" T = true) (hb : F_Tower_bells [T] = some (.ok (.dat B))) (hX : reprF [.lst [B]] = some (.dat (.str X))) (x0 x1 x2 x3 x4 x5 x6 x8 x9 : Sl) : ld2 [x0, x1, x2, x3, x4, x5, x6, .dat P, x8, x9, x10, x11] = some (.ok .nx, [x0, x1, x2, x3, x4, x5, x6, .dat P, x8, x9, .own (.lst [T]), .own (.lst [B])]) ∧ ∃ z10 z11, ld3 [x0, x1, x2, x3, x4, x5, x6, .dat P, x8, x9, .own (.lst [T]), .own (.lst [B])] = some (.ok .nx, [x0, x1, x2, x3, x4, x5, x6, .dat P, x8, x9, z10, z11]) := by
  have l := lm1_ow (a := .non) (c := .non) e1 x0 x1 x2 x3 x4 x5 x6 x8 x9 x10 x11
  have i : isiG [.lst [T], .ty "tuple"] = some (.dat (.bl false)) := rfl
  have x0' : ixD (.lst [T]) (.int 0) = some (.dat T) := rfl
  have n := str_ne X
  have k : mkLst [B] = some (.own (.lst [B])) := rfl
  unfold ld2
  unfold lm1 at l
  generalize (sLam [7] (sCallF (argN 1 F_read_tower) (sCons (cap (sVar 7)) sNil)) F_law_read_told) = LM at *
  generalize D.lst [T] = TT at *
  generalize D.lst [B] = BB at *
  refine ⟨by simp [bnd_ap, l, e2], .own TT, .own BB, by simp [bnd_ap, i, x0', hi, hb, hX, n, k]⟩
theorem ld45_er {B T P a c : D} {X : Str} (e1 : F_read_heard [T, P] = some (.error (xP a c))) (e2 : F_law_heard_read [B, P] = some (.ok (.dat (.tup [a, c])))) (hX : reprF [.tup [a, c]] = some (.dat (.str X))) (x0 x1 x2 x5 x6 x7 x9 x11 : Sl) : (sSeq ld4 ld5) [x0, x1, x2, .dat B, .dat T, x5, x6, x7, .dat P, x9, x10, x11] = some (.ok .nx, [x0, x1, x2, .dat B, .dat T, x5, x6, x7, .dat P, x9, .dat (.tup [a, c]), x11]) := by
  have l := lm2_er (V := .non) e1 x0 x1 x2 (.dat B) x5 x6 x7 x9 x10 x11
  have n := str_ne X
  unfold ld4
  unfold lm2 at l
  generalize (sLam [4, 8] (sCallF (argN 2 F_read_heard) (sCons (cap (sVar 4)) (sCons (cap (sVar 8)) sNil))) F_law_read_told) = LM at *
  generalize D.tup [a, c] = TT at *
  refine sSeq_to (Γ' := [x0, x1, x2, .dat B, .dat T, x5, x6, x7, .dat P, x9, .dat TT, x11]) (by simp [bnd_ap, l]) (by simp [bnd_ap, e2, hX, n])
theorem ld45_ok {B T P V : D} {X : Str} (e1 : F_read_heard [T, P] = some (.ok (.dat V))) (e2 : F_law_heard_read [B, P] = some (.ok (.own (.lst [V])))) (hX : reprF [.lst [V]] = some (.dat (.str X))) (x0 x1 x2 x5 x6 x7 x9 x11 : Sl) : ∃ z10, (sSeq ld4 ld5) [x0, x1, x2, .dat B, .dat T, x5, x6, x7, .dat P, x9, x10, x11] = some (.ok .nx, [x0, x1, x2, .dat B, .dat T, x5, x6, x7, .dat P, x9, z10, x11]) := by
  have l := lm2_dt (a := .non) (c := .non) e1 x0 x1 x2 (.dat B) x5 x6 x7 x9 x10 x11
  have n := str_ne X
  unfold ld4
  unfold lm2 at l
  generalize (sLam [4, 8] (sCallF (argN 2 F_read_heard) (sCons (cap (sVar 4)) (sCons (cap (sVar 8)) sNil))) F_law_read_told) = LM at *
  generalize D.lst [V] = TT at *
  exact ⟨.own TT, sSeq_to (Γ' := [x0, x1, x2, .dat B, .dat T, x5, x6, x7, .dat P, x9, .own TT, x11]) (by simp [bnd_ap, l]) (by simp [bnd_ap, e2, hX, n])⟩
theorem turn_ok {l : List (Nat × Int)} (b : BellsT l) {hs : List (List Nat)} (ho : Heard l hs) (hl : hs.length ≤ 9) {t m : Nat} {s : D} (ht : t < 8) (hs0 : Src m s) (hm : m ≤ 10000) {x4 : Sl} (o : OD x4 (towerD l)) (x0 x1 x7 x8 x9 x10 x11 : Sl) : Ev ldB [x0, x1, .own s, .dat (bellsD l), x4, .dat (heardD hs), .dat (natI t), x7, x8, x9, x10, x11] fun f Γ' => f = .nx ∧ ∃ (s' : D) (z4 z7 z8 z9 z10 z11 : Sl), Src (m + 24) s' ∧ OD z4 (towerD l) ∧ Γ' = [x0, x1, (.own s'), .dat (bellsD l), z4, .dat (heardD hs), .dat (natI t), z7, z8, z9, z10, z11] := by
  have h5 : ∀ a ∈ hs, a.length ≤ 5 := fun a ha => by
    have o := ho a ha
    have := List.length_filter_le (fun c => decide (c ∈ a)) (l.map (·.1))
    rw [o.is, List.length_map] at this
    have := b.hi
    omega
  have tt := tower_text_ok b.hi b.per
  have jn := heard_join (hs := hs) (by omega) h5
  have nt : neD (heardD hs) (.tup []) = some (.dat (.bl (!hs.isEmpty))) := ne_tup _
  have htx := ht_run (T := towerD l) (isChk_tower l) (check_data b ho (by omega)) nt fun _ => jn
  have lt : (textS l).length ≤ 100 := by
    have e : Txt.join "\n" (l.map bellS) = Str.join "\n" (l.map bellS) := join_is _ _
    have h2 := sum_le (ys := l.map bellS) (n := 5) fun y hy => by
      obtain ⟨q, hq, rfl⟩ := List.mem_map.mp hy
      exact bell_len (b.per q hq)
    have h3 := StrLaws.join_length_le "\n" (l.map bellS)
    have z : ("\n" : Str).length = 1 := by decide
    have := b.hi
    unfold textS
    rw [e]
    rw [z, List.length_map] at h3
    rw [List.length_map] at h2
    omega
  have lh : (if (!hs.isEmpty) = true then Txt.join " " (hs.map mkS) else "nothing" : Str).length ≤ 100 := by
    by_cases c : (!hs.isEmpty) = true
    · rw [if_pos c]
      have h2 := sum_le (ys := hs.map mkS) (n := 5) fun y hy => by
        obtain ⟨q, hq, rfl⟩ := List.mem_map.mp hy
        rw [mkS_len]; exact h5 q hq
      have h3 := StrLaws.join_length_le " " (hs.map mkS)
      have z : (" " : Str).length = 1 := by decide
      rw [join_is]
      rw [z, List.length_map] at h3
      rw [List.length_map] at h2
      omega
    · rw [if_neg c]; decide
  generalize textS l = p at *
  generalize (if (!hs.isEmpty) = true then Txt.join " " (hs.map mkS) else "nothing" : Str) = q at *
  refine ev_st (ld0_it o tt htx _ _ _ _ _ _ _ _) (ev_seq ((ld1_ok ht hs0 hm lt lh _ _ _ _ _ _ _ _).mono ?_))
  rintro f Γ ⟨rfl, s', p', q', z9, hs', lp, lq, rfl⟩
  refine ⟨rfl, ?_⟩
  have rT := read_T (x := p') (by omega)
  have fin : ∀ z10 z11 : Sl, Ev (sSeq ld4 ld5) [x0, x1, (.own s'), .dat (bellsD l), .dat (towerD l), .dat (heardD hs), .dat (natI t), (.dat (.str p')), (.dat (.str q')), z9, z10, z11] fun f Γ' => f = .nx ∧ ∃ (s' : D) (z4 z7 z8 z9 z10 z11 : Sl), Src (m + 24) s' ∧ OD z4 (towerD l) ∧ Γ' = [x0, x1, (.own s'), .dat (bellsD l), z4, .dat (heardD hs), .dat (natI t), z7, z8, z9, z10, z11] := by
    intro z10 z11
    rcases read_H b (x := q') (by omega) with ⟨pp, ⟨b1, b2⟩, e1, e2⟩ | ⟨ws, g1, g2, e1, e2⟩
    · obtain ⟨X, hX⟩ := err_repr (p := pp) (by omega) (by omega)
      exact ev_eq (ld45_er e1 e2 hX _ _ _ _ _ _ _ _) ⟨rfl, s', _, _, _, _, _, _, hs', .inr rfl, rfl⟩
    · obtain ⟨X, hX⟩ := words_repr b g1 g2
      obtain ⟨y10, e⟩ := ld45_ok e1 e2 hX x0 x1 (.own s') (.dat (heardD hs)) (.dat (natI t)) (.dat (.str p')) z9 z11
      exact ev_eq e ⟨rfl, s', _, _, _, _, _, _, hs', .inr rfl, rfl⟩
  cases hf : fo stT 0 ([], none) (Txt.split p' (c1 10)) with
  | error pp =>
    rw [hf] at rT
    obtain ⟨⟨b1, b2⟩, e1, e2⟩ := rT
    obtain ⟨X, hX⟩ := err_repr (p := pp) (by omega) (by omega)
    obtain ⟨r1, r2⟩ := ld23_er' e1 e2 hX x0 x1 (.own s') (.dat (bellsD l)) (.dat (towerD l)) (.dat (heardD hs)) (.dat (natI t)) (.dat (.str q')) z9
    exact ev_st r1 (ev_st r2 (fin _ _))
  | ok sv =>
    rw [hf] at rT
    obtain ⟨bb, e1, e2⟩ := rT
    obtain ⟨X, hX⟩ := bells_repr bb
    obtain ⟨r1, y10, y11, r2⟩ := ld23_ok e1 e2 (isIns_tower _) (pr_bells _) hX x0 x1 (.own s') (.dat (bellsD l)) (.dat (towerD l)) (.dat (heardD hs)) (.dat (natI t)) (.dat (.str q')) z9
    exact ev_st r1 (ev_st r2 (fin _ _))
theorem bells_turn {l : List (Nat × Int)} (b : BellsT l) {m : Nat} {s : D} (hs0 : Src m s) (hm : m ≤ 5000) (x0 x1 x4 x5 x6 x7 x8 x9 x10 x11 : Sl) : Ev lcB [x0, x1, .own s, .dat (bellsD l), x4, x5, x6, x7, x8, x9, x10, x11] fun f Γ' => f = .nx ∧ ∃ (s' : D) (z4 z5 z6 z7 z8 z9 z10 z11 : Sl), Src (m + 200) s' ∧ Γ' = [x0, x1, (.own s'), .dat (bellsD l), z4, z5, z6, z7, z8, z9, z10, z11] := by
  obtain ⟨s1, rs, hr, hs1, e1⟩ := row_ok b hs0 (by omega)
  obtain ⟨n, s2, e2, n0, n1, hs2⟩ := next_ok (n := 9) hs1 (by omega) (by omega) (by omega)
  obtain ⟨n, rfl⟩ := Int.eq_ofNat_of_zero_le n0
  have e4 := chimes_ok b hr (many := n) (by omega)
  rw [songH_data] at e4
  have ho := songH_heard b hr n
  have hl := songH_len l rs n
  have e4 : F_law_chimes [bellsD l, rowD rs, .int (n : Nat)] = some (.ok (.dat (heardD (songH l rs n)))) := e4
  generalize songH l rs n = hs at *
  refine ev_st (lc0_it (init_ok b) e1 e2 e4 _ _ _ _ _ _ _ _) ?_
  have ir : (sRng range1 (sCons (cap (sK (.int 8))) sNil)) [x0, x1, (.own s2), .dat (bellsD l), .own (towerD l), .dat (heardD hs), x6, x7, x8, x9, x10, x11] = some (.ok ((List.range 8).map natI), [x0, x1, (.own s2), .dat (bellsD l), .own (towerD l), .dat (heardD hs), x6, x7, x8, x9, x10, x11]) := sRng_to (ds := [natI 8]) rfl (range1_n (by omega))
  refine ev_for (ds := (List.range 8).map natI) (Γ1 := [x0, x1, (.own s2), .dat (bellsD l), .own (towerD l), .dat (heardD hs), x6, x7, x8, x9, x10, x11]) (fun i Γ => i ≤ 8 → ∃ (s' : D) (z4 z6 z7 z8 z9 z10 z11 : Sl), Src (m + 6 + 24 * i) s' ∧ OD z4 (towerD l) ∧ Γ = [x0, x1, (.own s'), .dat (bellsD l), z4, .dat (heardD hs), z6, z7, z8, z9, z10, z11]) ir (fun _ => ⟨s2, _, _, _, _, _, _, _, hs2, .inl rfl, rfl⟩) (fun i d hd Γ hi => ?_) fun Γ hi => ?_
  · have hlt : i < 8 := by
      have := (List.getElem?_eq_some_iff.mp hd).1
      simpa using this
    obtain ⟨t, ht, rfl⟩ := List.mem_map.mp (List.mem_of_getElem? hd)
    have ht := List.mem_range.mp ht
    obtain ⟨s3, z4, z6, z7, z8, z9, z10, z11, hs3, o, rfl⟩ := hi (by omega)
    refine ⟨[x0, x1, (.own s3), .dat (bellsD l), z4, .dat (heardD hs), .dat (natI t), z7, z8, z9, z10, z11], rfl, (turn_ok b ho (by omega) ht hs3 (by omega) o _ _ _ _ _ _ _).mono ?_⟩
    rintro f Γ ⟨rfl, s4, y4, y7, y8, y9, y10, y11, hs4, o4, rfl⟩
    exact ⟨rfl, fun _ => ⟨s4, _, _, _, _, _, _, _, hs4.mono (by omega), o4, rfl⟩⟩
  · rw [List.length_map, List.length_range] at hi
    obtain ⟨s3, z4, z6, z7, z8, z9, z10, z11, hs3, o, rfl⟩ := hi (Nat.le_refl _)
    exact ⟨rfl, s3, _, _, _, _, _, _, _, _, hs3.mono (by omega), rfl⟩
def O56 (N : D) (Γ : List Sl) : Prop := ∃ x1 x2 x3 x4 x5 x6 x7 x8 x9 x10 x11 : Sl, Γ = [.dat N, x1, x2, x3, x4, x5, x6, x7, x8, x9, x10, x11]
theorem holds (ns : List Int) (hl : ns.length ≤ 63) : F_law [.lst (ns.map .int)] = some (.ok (.dat (.bl true))) := by
  obtain ⟨n, h1, h2⟩ := turns_ok (ns.map D.int).length 3 (by decide)
  refine ev_def ?_
  unfold c_law
  refine ev_seq (ev_for (ds := (List.range n).map natI) (Γ1 := [.dat (.lst (ns.map .int)), .un, .un, .un, .un, .un, .un, .un, .un, .un, .un, .un]) (fun _ => O56 (.lst (ns.map .int))) (k_it (c := 3) (by omega) h2) ⟨_, _, _, _, _, _, _, _, _, _, _, rfl⟩ (fun i d hd Γ hi => ?_) fun Γ hi => ?_)
  · obtain ⟨x1, x2, x3, x4, x5, x6, x7, x8, x9, x10, x11, rfl⟩ := hi
    obtain ⟨k, hk, rfl⟩ := List.mem_map.mp (List.mem_of_getElem? hd)
    have hk := List.mem_range.mp hk
    refine ⟨[.dat (.lst (ns.map .int)), .dat (natI k), x2, x3, x4, x5, x6, x7, x8, x9, x10, x11], rfl, ?_⟩
    obtain ⟨s, hs, e0⟩ := source_ok ns k
    have e0 : F_law_source [.lst (ns.map .int), natI k] = some (.ok (.own s)) := e0
    obtain ⟨s1, l, bb, hs1, e1⟩ := law_bells_ok (top := 80) hs (by omega) (by omega) (by omega)
    have e1 : F_law_bells s [.int 80] = some (.ok (.dat (.kn (l.map bellD))), s1) := e1
    have b : BellsT l := bb.t (by omega) (by omega) (by omega)
    obtain ⟨s2, l2, bb2, hs2, e2⟩ := great_ok hs1 (by omega)
    have e2 : F_law_great_bells s1 [] = some (.ok (.dat (.kn (l2.map bellD))), s2) := e2
    have b2 : BellsT l2 := bb2.t (by omega) (by omega) (by omega)
    clear hd
    generalize D.lst (ns.map .int) = N at *
    generalize natI k = K at *
    refine ev_st (lb0_it e0 _ _ _ _ _ _ _ _ _) ?_
    refine ev_for (ds := [bellsD l, bellsD l2]) (Γ1 := [.dat N, .dat K, (.own s2), x3, x4, x5, x6, x7, x8, x9, x10, x11]) (fun i Γ => i ≤ 2 → ∃ (s' : D) (z3 z4 z5 z6 z7 z8 z9 z10 z11 : Sl), Src (100 + 300 * i) s' ∧ Γ = [.dat N, .dat K, (.own s'), z3, z4, z5, z6, z7, z8, z9, z10, z11]) (lbI_it e1 e2 _ _ _ _ _ _ _ _ _ _ _) (fun _ => ⟨s2, _, _, _, _, _, _, _, _, _, hs2.mono (by omega), rfl⟩) (fun i d hd Γ hi => ?_) fun Γ hi => ?_
    · have hlt : i < 2 := (List.getElem?_eq_some_iff.mp hd).1
      obtain ⟨s3, z3, z4, z5, z6, z7, z8, z9, z10, z11, hs3, rfl⟩ := hi (by omega)
      have hm := List.mem_of_getElem? hd
      have go : ∀ l' : List (Nat × Int), BellsT l' → d = bellsD l' → ∃ Γa, (gSet 3) d [.dat N, .dat K, (.own s3), z3, z4, z5, z6, z7, z8, z9, z10, z11] = some (.ok (), Γa) ∧ Ev lcB Γa fun f Γ' => f = .nx ∧ (i + 1 ≤ 2 → ∃ (s' : D) (z3 z4 z5 z6 z7 z8 z9 z10 z11 : Sl), Src (100 + 300 * (i + 1)) s' ∧ Γ' = [.dat N, .dat K, (.own s'), z3, z4, z5, z6, z7, z8, z9, z10, z11]) := by
        intro l' b' hd'
        subst hd'
        refine ⟨[.dat N, .dat K, (.own s3), .dat (bellsD l'), z4, z5, z6, z7, z8, z9, z10, z11], rfl, (bells_turn b' hs3 (by omega) _ _ _ _ _ _ _ _ _ _).mono ?_⟩
        rintro f Γ ⟨rfl, s4, y4, y5, y6, y7, y8, y9, y10, y11, hs4, rfl⟩
        exact ⟨rfl, fun _ => ⟨s4, _, _, _, _, _, _, _, _, _, hs4.mono (by omega), rfl⟩⟩
      rcases List.mem_cons.mp hm with h | h
      · exact go l b h
      · exact go l2 b2 (List.mem_singleton.mp h)
    · obtain ⟨s3, z3, z4, z5, z6, z7, z8, z9, z10, z11, hs3, rfl⟩ := hi (Nat.le_refl 2)
      exact ⟨rfl, _, _, _, _, _, _, _, _, _, _, _, rfl⟩
  · obtain ⟨x1, x2, x3, x4, x5, x6, x7, x8, x9, x10, x11, rfl⟩ := hi
    exact ⟨rfl, ev_ret (r := .dat (.bl true)) rfl rfl⟩
end Law
namespace G
open PySem PySem.Spec PyProof.Rows L2 DL
theorem exm_of {K : PySem.W.Frag} {C S : Addr} {b : Bool} (h1 : PySem.W.subIn K (.ref S) (.type "BaseException") = some true) (h2 : PySem.W.isClsIn K S = true) (h3 : PySem.W.typeIn K (.ref S) = some (.type "type")) (h4 : PySem.W.subIn K (.ref C) (.ref S) = some b) :
    PySem.W.exmOne K (.ref C) (.ref S) = some b := by
  have e1 : (PySem.W.subIn K (.ref S) (.type "BaseException") == some true) = true := by rw [h1] <;> rfl
  have e2 : ((PySem.W.clsIn K S).isSome && PySem.W.typeIn K (.ref S) == some (.type "type")) = true := by
    have h2' : (PySem.W.clsIn K S).isSome = true := h2
    rw [h2', h3] <;> rfl
  show (if (PySem.W.subIn K (.ref S) (.type "BaseException") == some true) = true then (if ((PySem.W.clsIn K S).isSome && PySem.W.typeIn K (.ref S) == some (.type "type")) = true then PySem.W.subIn K (.ref C) (.ref S) else none) else none) = some b
  rw [if_pos e1, if_pos e2]
  exact h4
theorem binds_one {K : PySem.W.Frag} {x qual : Str} {params : Arguments} {body : List Stmt} {scope : Scope} {T f : Addr} {oc kV doc pm cdv ct oT : Value} {od an dT : Option Addr} {osl sT : Array (Option Value)} {n : Nat} {ps : List Str}
    (lk : K.lookup f = some ⟨oc, od, .func (PySem.W.fnOf x qual params body scope (.ref T) kV doc pm an cdv ct), osl⟩) (hcd : PySem.W.codeIn K cdv qual = true) (kp : PySem.W.keepIn K (.ref f) = true)
    (lT : K.lookup T = some ⟨oT, dT, .seq #[.none] n, sT⟩)
    (h : ∀ (T : Addr) (kV doc pm : Value) (an : Option Addr) (cdv ct : Value) (us its : List Value), us.length = ps.length → its.length = 1 →
      ∃ k, bindArgs (PySem.W.fnOf x qual params body scope (.ref T) kV doc pm an cdv ct) ⟨us, []⟩ = seqItems? (.ref T) >>= k ∧ k (some its.toArray) = pure (ps.zip (us ++ its.drop 1))) :
    Binds K (PySem.W.fnOf x qual params body scope (.ref T) kV doc pm an cdv ct) ps [] := by
  intro s us X hl
  rw [List.append_nil] at hl ⊢
  obtain ⟨k, e1, e2⟩ := h T kV doc pm an cdv ct us [.none] hl rfl
  refine L2.BindsTo.of_looks fun M => ?_
  rw [e1]
  refine looks_items X lT rfl (.of_pure ?_)
  rw [e2]
  simp
structure Txt (K : PySem.W.Frag) (mg : Str → Option Value) (cm : CM) (base : Heap) : Prop where
  tb : ∀ p ∈ cm.codes, LamX.TabB base mg p.1 p.2
  b_range : mg "range" = none
  b_max : mg "max" = none
  b_min : mg "min" = none
  b_len : mg "len" = none
  f_law_source : ∃ f fd, mg "_law_source" = some (.ref f) ∧ PySem.W.keepIn K (.ref f) = true ∧ Binds K fd ["_law_script", "_law_k"] [] ∧ Fun K "_law_source" "_law_source" s_law_source f fd
  b_sorted : mg "sorted" = none
  b_list : mg "list" = none
  f_law_next : ∃ f fd, mg "_law_next" = some (.ref f) ∧ PySem.W.keepIn K (.ref f) = true ∧ Binds K fd ["_law_source_here", "_law_many"] [] ∧ Fun K "_law_next" "_law_next" s_law_next f fd
  f_law_mixed : ∃ f fd, mg "_law_mixed" = some (.ref f) ∧ PySem.W.keepIn K (.ref f) = true ∧ Binds K fd ["_law_source_here", "_law_items"] [] ∧ Fun K "_law_mixed" "_law_mixed" s_law_mixed f fd
  b_tuple : mg "tuple" = none
  f_law_great_bells : ∃ f fd, mg "_law_great_bells" = some (.ref f) ∧ PySem.W.keepIn K (.ref f) = true ∧ Binds K fd ["_law_source_here"] [] ∧ Fun K "_law_great_bells" "_law_great_bells" s_law_great_bells f fd
  f_law_bells : ∃ f fd, mg "_law_bells" = some (.ref f) ∧ PySem.W.keepIn K (.ref f) = true ∧ Binds K fd ["_law_source_here", "_law_top"] [] ∧ Fun K "_law_bells" "_law_bells" s_law_bells f fd
  b_zip : mg "zip" = none
  f_law_at : ∃ f fd, mg "_law_at" = some (.ref f) ∧ PySem.W.keepIn K (.ref f) = true ∧ Binds K fd ["_law_bells_here", "_law_row_here", "_law_time"] [] ∧ Fun K "_law_at" "_law_at" s_law_at f fd
  f_law_timed : ∃ f fd, mg "_law_timed" = some (.ref f) ∧ PySem.W.keepIn K (.ref f) = true ∧ Binds K fd ["_law_bells_here", "_law_row_here", "_law_many"] [] ∧ Fun K "_law_timed" "_law_timed" s_law_timed f fd
  f_law_chimes : ∃ f fd, mg "_law_chimes" = some (.ref f) ∧ PySem.W.keepIn K (.ref f) = true ∧ Binds K fd ["_law_bells_here", "_law_row_here", "_law_many"] [] ∧ Fun K "_law_chimes" "_law_chimes" s_law_chimes f fd
  f_law_row : ∃ f fd, mg "_law_row" = some (.ref f) ∧ PySem.W.keepIn K (.ref f) = true ∧ Binds K fd ["_law_source_here", "_law_bells_here"] [] ∧ Fun K "_law_row" "_law_row" s_law_row f fd
  b_isinstance : mg "isinstance" = none
  ec_BellError : ExcC K (cm 0)
  ec_InvalidTower : ExcC K (cm 1)
  ec_InvalidName : ExcC K (cm 2)
  ec_InvalidHeard : ExcC K (cm 3)
  ec_InvalidNumber : ExcC K (cm 4)
  ec_ParseError : ExcC K (cm 5)
  ec_Tower : InsC K (cm 6)
  mg_Tower : mg "Tower" = some (.ref (cm 6))
  cv_Tower_MAX_BELLS : ∃ mc u, ClX.CRead K (cm 6) mc ∧ ClX.CVal K (cm 6) mc "MAX_BELLS" (.int 5) u
  b_enumerate : mg "enumerate" = none
  b_str : mg "str" = none
  g_LETTERS : ∃ t, mg "LETTERS" = some (.str "abcdefghijklmnopqrstuvwxyz" t)
  f_is_name : ∃ f fd, mg "is_name" = some (.ref f) ∧ PySem.W.keepIn K (.ref f) = true ∧ Binds K fd ["value"] [] ∧ Fun K "is_name" "is_name" s_is_name f fd
  b_int : mg "int" = none
  b_bool : mg "bool" = none
  f_is_integer : ∃ f fd, mg "is_integer" = some (.ref f) ∧ PySem.W.keepIn K (.ref f) = true ∧ Binds K fd ["value", "least", "most"] [] ∧ Fun K "is_integer" "is_integer" s_is_integer f fd
  cv_Tower_MAX_PERIOD : ∃ mc u, ClX.CRead K (cm 6) mc ∧ ClX.CVal K (cm 6) mc "MAX_PERIOD" (.int 30) u
  f_is_bell : ∃ f fd, mg "is_bell" = some (.ref f) ∧ PySem.W.keepIn K (.ref f) = true ∧ Binds K fd ["value"] [] ∧ Fun K "is_bell" "is_bell" s_is_bell f fd
  f_tower_faults : ∃ f fd, mg "tower_faults" = some (.ref f) ∧ PySem.W.keepIn K (.ref f) = true ∧ Binds K fd ["value"] [] ∧ Fun K "tower_faults" "tower_faults" s_tower_faults f fd
  mg_InvalidTower : mg "InvalidTower" = some (.ref (cm 1))
  ox_InvalidTower : OexG K (cm 1)
  ri_InvalidTower : ∃ (f : Addr) (oc dV kV dc pm cd ct : Value) (od an : Option Addr) (sl : Array (Option Value)), PySem.W.findIn K (.ref (cm 1)) "__init__" = some (some (.ref f)) ∧ PySem.W.typeIn K (.ref f) = some (.type "function") ∧ Binds K (PySem.W.fnOf "__init__" "InvalidTower.__init__" (defArgs s_InvalidTower___init) (defBody s_InvalidTower___init) (defScope s_InvalidTower___init) dV kV dc pm an cd ct) ["self", "index"] [] ∧ K.lookup f = some ⟨oc, od, .func (PySem.W.fnOf "__init__" "InvalidTower.__init__" (defArgs s_InvalidTower___init) (defBody s_InvalidTower___init) (defScope s_InvalidTower___init) dV kV dc pm an cd ct), sl⟩ ∧ PySem.W.codeIn K cd "InvalidTower.__init__" = true ∧ PySem.W.findIn K (.ref (cm 1)) "index" = some none
  cl_Tower : Cls K (cm 6)
  na_Tower_own_bells : PySem.W.findIn K (.ref (cm 6)) "own_bells" = some none
  na_Tower_own_names : PySem.W.findIn K (.ref (cm 6)) "own_names" = some none
  na_Tower_own_periods : PySem.W.findIn K (.ref (cm 6)) "own_periods" = some none
  f_common_multiple : ∃ f fd, mg "common_multiple" = some (.ref f) ∧ PySem.W.keepIn K (.ref f) = true ∧ Binds K fd ["numbers"] [] ∧ Fun K "common_multiple" "common_multiple" s_common_multiple f fd
  na_Tower_own_round : PySem.W.findIn K (.ref (cm 6)) "own_round" = some none
  i_Tower : ∃ f fd, Mk K (cm 6) f ∧ Binds K fd ["self", "bells"] [] ∧ Fun K "__init__" "Tower.__init__" s_Tower___init f fd
  co_Tower_MAX_HEARD : ∃ t, Con K (cm 6) "MAX_HEARD" (.int 200) (.int 200 t)
  mg_InvalidHeard : mg "InvalidHeard" = some (.ref (cm 3))
  ox_InvalidHeard : OexG K (cm 3)
  ri_InvalidHeard : ∃ (f : Addr) (oc dV kV dc pm cd ct : Value) (od an : Option Addr) (sl : Array (Option Value)), PySem.W.findIn K (.ref (cm 3)) "__init__" = some (some (.ref f)) ∧ PySem.W.typeIn K (.ref f) = some (.type "function") ∧ Binds K (PySem.W.fnOf "__init__" "InvalidHeard.__init__" (defArgs s_InvalidHeard___init) (defBody s_InvalidHeard___init) (defScope s_InvalidHeard___init) dV kV dc pm an cd ct) ["self", "index"] [] ∧ K.lookup f = some ⟨oc, od, .func (PySem.W.fnOf "__init__" "InvalidHeard.__init__" (defArgs s_InvalidHeard___init) (defBody s_InvalidHeard___init) (defScope s_InvalidHeard___init) dV kV dc pm an cd ct), sl⟩ ∧ PySem.W.codeIn K cd "InvalidHeard.__init__" = true ∧ PySem.W.findIn K (.ref (cm 3)) "index" = some none
  f_is_chime : ∃ f fd, mg "is_chime" = some (.ref f) ∧ PySem.W.keepIn K (.ref f) = true ∧ Binds K fd ["names", "value"] [] ∧ Fun K "is_chime" "is_chime" s_is_chime f fd
  m_Tower_check_heard : ∃ f fd, Meth K (cm 6) "check_heard" f ∧ Binds K fd ["self", "value"] [] ∧ Fun K "check_heard" "Tower.check_heard" s_Tower_check_heard f fd
  f_heard_text : ∃ f fd, mg "heard_text" = some (.ref f) ∧ PySem.W.keepIn K (.ref f) = true ∧ Binds K fd ["tower", "heard"] [] ∧ Fun K "heard_text" "heard_text" s_heard_text f fd
  p_Tower_bells : ∃ p f fd, PropOf K (cm 6) "bells" p f ∧ Binds K fd ["self"] [] ∧ Fun K "bells" "Tower.bells" s_Tower_bells f fd
  f_tower_text : ∃ f fd, mg "tower_text" = some (.ref f) ∧ PySem.W.keepIn K (.ref f) = true ∧ Binds K fd ["tower"] [] ∧ Fun K "tower_text" "tower_text" s_tower_text f fd
  f_law_bent_page : ∃ f fd, mg "_law_bent_page" = some (.ref f) ∧ PySem.W.keepIn K (.ref f) = true ∧ Binds K fd ["_law_source_here", "_law_page"] [] ∧ Fun K "_law_bent_page" "_law_bent_page" s_law_bent_page f fd
  f_law_tower_read : ∃ f fd, mg "_law_tower_read" = some (.ref f) ∧ PySem.W.keepIn K (.ref f) = true ∧ Binds K fd ["_law_page"] [] ∧ Fun K "_law_tower_read" "_law_tower_read" s_law_tower_read f fd
  mg_ParseError : mg "ParseError" = some (.ref (cm 5))
  em_BellError_ParseError : PySem.W.exmOne K (.ref (cm 0)) (.ref (cm 5)) = some false
  em_InvalidTower_ParseError : PySem.W.exmOne K (.ref (cm 1)) (.ref (cm 5)) = some false
  em_InvalidName_ParseError : PySem.W.exmOne K (.ref (cm 2)) (.ref (cm 5)) = some false
  em_InvalidHeard_ParseError : PySem.W.exmOne K (.ref (cm 3)) (.ref (cm 5)) = some false
  em_InvalidNumber_ParseError : PySem.W.exmOne K (.ref (cm 4)) (.ref (cm 5)) = some false
  em_ParseError_ParseError : PySem.W.exmOne K (.ref (cm 5)) (.ref (cm 5)) = some true
  xf_ParseError : XfC K (cm 5)
  xn_ParseError_word : PySem.W.findIn K (.ref (cm 5)) "word" = some none
  xn_ParseError_line : PySem.W.findIn K (.ref (cm 5)) "line" = some none
  f_law_read_told : ∃ f fd, mg "_law_read_told" = some (.ref f) ∧ PySem.W.keepIn K (.ref f) = true ∧ Binds K fd ["_law_action"] [] ∧ Fun K "_law_read_told" "_law_read_told" s_law_read_told f fd
  ox_ParseError : OexG K (cm 5)
  ri_ParseError : ∃ (f : Addr) (oc dV kV dc pm cd ct : Value) (od an : Option Addr) (sl : Array (Option Value)), PySem.W.findIn K (.ref (cm 5)) "__init__" = some (some (.ref f)) ∧ PySem.W.typeIn K (.ref f) = some (.type "function") ∧ Binds K (PySem.W.fnOf "__init__" "ParseError.__init__" (defArgs s_ParseError___init) (defBody s_ParseError___init) (defScope s_ParseError___init) dV kV dc pm an cd ct) ["self", "line", "word"] [] ∧ K.lookup f = some ⟨oc, od, .func (PySem.W.fnOf "__init__" "ParseError.__init__" (defArgs s_ParseError___init) (defBody s_ParseError___init) (defScope s_ParseError___init) dV kV dc pm an cd ct), sl⟩ ∧ PySem.W.codeIn K cd "ParseError.__init__" = true ∧ PySem.W.findIn K (.ref (cm 5)) "line" = some none ∧ PySem.W.findIn K (.ref (cm 5)) "word" = some none
  f_need_text : ∃ f fd, mg "need_text" = some (.ref f) ∧ PySem.W.keepIn K (.ref f) = true ∧ Binds K fd ["text"] [] ∧ Fun K "need_text" "need_text" s_need_text f fd
  f_is_period : ∃ f fd, mg "is_period" = some (.ref f) ∧ PySem.W.keepIn K (.ref f) = true ∧ Binds K fd ["word"] [] ∧ Fun K "is_period" "is_period" s_is_period f fd
  f_read_tower : ∃ f fd, mg "read_tower" = some (.ref f) ∧ PySem.W.keepIn K (.ref f) = true ∧ Binds K fd ["text"] [] ∧ Fun K "read_tower" "read_tower" s_read_tower f fd
  b_repr : mg "repr" = none
  p_Tower_names : ∃ p f fd, PropOf K (cm 6) "names" p f ∧ Binds K fd ["self"] [] ∧ Fun K "names" "Tower.names" s_Tower_names f fd
  f_read_heard : ∃ f fd, mg "read_heard" = some (.ref f) ∧ PySem.W.keepIn K (.ref f) = true ∧ Binds K fd ["tower", "text"] [] ∧ Fun K "read_heard" "read_heard" s_read_heard f fd
  f_law_sets : ∃ f fd, mg "_law_sets" = some (.ref f) ∧ PySem.W.keepIn K (.ref f) = true ∧ Binds K fd ["_law_bells_here"] [] ∧ Fun K "_law_sets" "_law_sets" s_law_sets f fd
  f_law_heard_read : ∃ f fd, mg "_law_heard_read" = some (.ref f) ∧ PySem.W.keepIn K (.ref f) = true ∧ Binds K fd ["_law_bells_here", "_law_page"] [] ∧ Fun K "_law_heard_read" "_law_heard_read" s_law_heard_read f fd
section
variable {P : Program} {w : World} {K : PySem.W.Frag} {mg : Str → Option Value} {base : Heap} {cm : CM} [WC cm w]
theorem xm_ParseError (X : Txt K mg cm base) : ∀ c b, m_ParseError c = some b → PySem.W.exmOne K (.ref (cm c)) (.ref (cm 5)) = some b := by
  intro c b h
  unfold m_ParseError at h
  split at h
  · cases h; exact X.em_BellError_ParseError
  · cases h; exact X.em_InvalidTower_ParseError
  · cases h; exact X.em_InvalidName_ParseError
  · cases h; exact X.em_InvalidHeard_ParseError
  · cases h; exact X.em_InvalidNumber_ParseError
  · cases h; exact X.em_ParseError_ParseError
  · cases h
theorem isi_X (X : Txt K mg cm base) : IsiF K cm isE isTb isTn isBt where
  exc := by
    intro c h hh
    unfold isE at h
    split at h
    · exact X.ec_BellError
    · exact X.ec_InvalidTower
    · exact X.ec_InvalidName
    · exact X.ec_InvalidHeard
    · exact X.ec_InvalidNumber
    · exact X.ec_ParseError
    · cases h
  ins := by
    intro c h hh
    rcases hh with ⟨c', b, e⟩ | ⟨n, b, e⟩
    · unfold isTb at e
      split at e
      all_goals first | exact X.ec_Tower | (cases e; done) | (simp [isE] at h; done)
    · cases e
  own := by
    intro c c' b h
    unfold isTb at h
    split at h
    all_goals first  | cases h
  typ := by
    intro c n b h
    cases h
  bas := by
    intro c n h
    unfold isBt at h
    split at h
    · cases h
theorem rz_InvalidTower (X : Txt K mg cm base) : DefEx1 P w K mg base cm "InvalidTower" 1 "index" := by
  obtain ⟨f, oc, dV, kV, dc, pm, cd, ct, od, an, sl, h1, h2, h3, h4, h5, h6⟩ := X.ri_InvalidTower
  exact ⟨f, _, _, X.mg_InvalidTower, X.ox_InvalidTower, h1, h2, h3, okExc1 h4 h5 sc_InvalidTower___init rfl X.ox_InvalidTower h6⟩
theorem rz_InvalidHeard (X : Txt K mg cm base) : DefEx1 P w K mg base cm "InvalidHeard" 3 "index" := by
  obtain ⟨f, oc, dV, kV, dc, pm, cd, ct, od, an, sl, h1, h2, h3, h4, h5, h6⟩ := X.ri_InvalidHeard
  exact ⟨f, _, _, X.mg_InvalidHeard, X.ox_InvalidHeard, h1, h2, h3, okExc1 h4 h5 sc_InvalidHeard___init rfl X.ox_InvalidHeard h6⟩
theorem rz_ParseError (X : Txt K mg cm base) : DefEx2 P w K mg base cm "ParseError" 5 "line" "word" := by
  obtain ⟨f, oc, dV, kV, dc, pm, cd, ct, od, an, sl, h1, h2, h3, h4, h5, h6, h7⟩ := X.ri_ParseError
  exact ⟨f, _, _, X.mg_ParseError, X.ox_ParseError, h1, h2, h3, okExc2 h4 h5 sc_ParseError___init rfl X.ox_ParseError h6 h7⟩
theorem b_law_source (X : Txt K mg cm base) {f : Addr} {cdv : Value} {A : Around} {outer : List Env} {s : Shared} {H : Hp} {E : XK} (ck : Cok (dtx P w K mg base cm ["_law_script", "_law_k", "_law_cell"] "_law_source" (defScope s_law_source) f cdv A outer s H E none) 1) : RSs (dtx P w K mg base cm ["_law_script", "_law_k", "_law_cell"] "_law_source" (defScope s_law_source) f cdv A outer s H E none) (defBody s_law_source) c_law_source :=
 (rss_cons (rs_set 2 (re_ifE (rt_cmp (op_neDD ck.room) (re_var 0) (re_lst ra_nil)) (re_ix (re_var 0) (re_bin op_modD (re_var 1) (re_callB call_lenF X.b_len (ro_cons (re_var 0) ro_nil)))) re_int) ck.nd)
 (rss_one (rs_ret (re_lst (ra_cons (re_var 2) (ra_cons (re_bin op_mulD re_int (re_var 1)) (ra_cons (re_ifE (rt_cmp op_geD (re_var 2) (re_bin op_powD re_int re_int)) (re_bin op_divD (re_var 2) (re_bin op_powD re_int re_int)) re_int) ra_nil)))))))
theorem ok_law_source (X : Txt K mg cm base) : DefP P w K mg base cm 2 "_law_source" ["_law_script", "_law_k"] F_law_source := by
  obtain ⟨f, fd, h1, h2, h3, Fu⟩ := X.f_law_source
  exact ⟨f, fd, h1, h2, h3, (def_pure Fu sc_law_source fun cdv A outer s H E ck => b_law_source X ck)⟩
theorem b_law_next (X : Txt K mg cm base) {a : Addr} {f : Addr} {cdv : Value} {A : Around} {outer : List Env} {s : Shared} {H : Hp} {E : XK} (ck : Cok (dtx P w K mg base cm ["_law_source_here", "_law_many", "_law_found", "_law_primes", "_law_prime"] "_law_next" (defScope s_law_next) f cdv A outer s H E (some a)) 1) : RSs (dtx P w K mg base cm ["_law_source_here", "_law_many", "_law_found", "_law_primes", "_law_prime"] "_law_next" (defScope s_law_next) f cdv A outer s H E (some a)) (defBody s_law_next) c_law_next :=
 (rss_cons (rs_if (rt_cmp op_gtD (re_ix (re_var 0) re_int) re_int)
 (rss_cons (rs_set 2 (re_bin op_modD (re_ix (re_var 0) re_int) (re_var 1)) ck.nd)
 (rss_cons (rs_asg (re_bin op_divD (re_ix (re_var 0) re_int) (re_var 1)) (rg_ix (re_var 0) re_int))
 (rss_one (rs_ret (re_var 2)))))
 rss_nil)
 (rss_cons (rs_asg (re_bin op_addD (re_ix (re_var 0) re_int) re_int) (rg_ix (re_var 0) re_int))
 (rss_cons (rs_set 3 (re_lst (ra_cons re_int (ra_cons re_int (ra_cons re_int (ra_cons re_int (ra_cons re_int (ra_cons re_int (ra_cons re_int (ra_cons re_int ra_nil))))))))) ck.nd)
 (rss_cons (rs_set 4 (re_ix (re_bin op_addD (re_var 3) (re_lst (ra_cons re_int (ra_cons re_int (ra_cons re_int ra_nil))))) (re_bin op_modD (re_ix (re_var 0) re_int) re_int)) ck.nd)
 (rss_one (rs_ret (re_bin op_modD (re_bin op_divD (re_bin op_modD (re_bin op_powD (re_bin op_addD (re_bin op_addD (re_bin op_modD (re_ix (re_var 0) re_int) (re_var 4)) (re_bin op_mulD re_int (re_ix (re_var 0) re_int))) re_int) re_int) (re_var 4)) re_int) (re_var 1))))))))
theorem ok_law_next (X : Txt K mg cm base) : DefM P w K mg base cm 2 "_law_next" ["_law_source_here", "_law_many"] F_law_next := by
  obtain ⟨f, fd, h1, h2, h3, Fu⟩ := X.f_law_next
  exact ⟨f, fd, h1, h2, h3, (def_lent Fu sc_law_next (by decide) fun a cdv A outer s H E ck => b_law_next X ck)⟩
theorem b_law_mixed (X : Txt K mg cm base) {a : Addr} {f : Addr} {cdv : Value} {A : Around} {outer : List Env} {s : Shared} {H : Hp} {E : XK} (ck : Cok (dtx P w K mg base cm ["_law_source_here", "_law_items", "_law_rest", "_law_found"] "_law_mixed" (defScope s_law_mixed) f cdv A outer s H E (some a)) 2) : RSs (dtx P w K mg base cm ["_law_source_here", "_law_items", "_law_rest", "_law_found"] "_law_mixed" (defScope s_law_mixed) f cdv A outer s H E (some a)) (defBody s_law_mixed) c_law_mixed :=
 (rss_cons (rs_par2 2 3 (rr_cons (re_callTy (call_listF ck.calm) X.b_list (ro_cons (re_var 1) ro_nil)) (rr_cons (re_lst ra_nil) rr_nil)) ck.calm ck.nd)
 (rss_cons (rs_while ck.own (rt_cmp (op_neDD ck.room) (re_var 2) (re_lst ra_nil))
 (rss_one (rs_expr (re_append (re_var 3) (ra_cons (re_popAt (re_var 2) (ra_cons (re_callM (ok_law_next X) (ck.mono (by decide)) (re_var 0) (ra_cons (re_callB call_lenF X.b_len (ro_cons (re_var 2) ro_nil)) ra_nil)) ra_nil)) ra_nil)))))
 (rss_one (rs_ret (re_var 3)))))
theorem ok_law_mixed (X : Txt K mg cm base) : DefM P w K mg base cm 3 "_law_mixed" ["_law_source_here", "_law_items"] F_law_mixed := by
  obtain ⟨f, fd, h1, h2, h3, Fu⟩ := X.f_law_mixed
  exact ⟨f, fd, h1, h2, h3, (def_lent Fu sc_law_mixed (by decide) fun a cdv A outer s H E ck => b_law_mixed X ck)⟩
theorem b_law_great_bells (X : Txt K mg cm base) {a : Addr} {f : Addr} {cdv : Value} {A : Around} {outer : List Env} {s : Shared} {H : Hp} {E : XK} (ck : Cok (dtx P w K mg base cm ["_law_source_here", "_law_names", "_law_name"] "_law_great_bells" (defScope s_law_great_bells) f cdv A outer s H E (some a)) 3) : RSs (dtx P w K mg base cm ["_law_source_here", "_law_names", "_law_name"] "_law_great_bells" (defScope s_law_great_bells) f cdv A outer s H E (some a)) (defBody s_law_great_bells) c_law_great_bells :=
 (rss_cons (rs_set 1 (re_callB (call_sortedF ck) X.b_sorted (ro_cons (re_sli (re_callM (ok_law_mixed X) (ck.mono (by decide)) (re_var 0) (ra_cons (re_callTy (call_listF ck.calm) X.b_list (ro_cons re_str ro_nil)) ra_nil)) roN (roS (re_bin op_addD re_int (re_callM (ok_law_next X) (ck.mono (by decide)) (re_var 0) (ra_cons re_int ra_nil))))) ro_nil)) ck.nd)
 (rss_one (rs_ret (re_callTy call_tupB X.b_tuple (ro_cons (re_lc [("_law_name", 2)] ck (ri_seq (re_var 1)) (fun s H C cl fp => (rgw_name 2 (ck.blk _ _ _ _ _).nd)) (fun s H C cl fp => rts_nil) (fun s H C cl fp => (re_tup (ra_cons (re_var 2) (ra_cons (re_bin op_addD re_int (re_callM (ok_law_next X) ((ck.blk _ _ _ _ _).mono (by decide)) (re_var 0) (ra_cons re_int ra_nil))) ra_nil)))) (ok := by show blkC ["_law_source_here", "_law_names", "_law_name"] (defScope s_law_great_bells) _ [("_law_name", 2)] = true; decide +kernel)) ro_nil)))))
theorem ok_law_great_bells (X : Txt K mg cm base) : DefM P w K mg base cm 4 "_law_great_bells" ["_law_source_here"] F_law_great_bells := by
  obtain ⟨f, fd, h1, h2, h3, Fu⟩ := X.f_law_great_bells
  exact ⟨f, fd, h1, h2, h3, (def_lent Fu sc_law_great_bells (by decide) fun a cdv A outer s H E ck => b_law_great_bells X ck)⟩
theorem b_law_bells (X : Txt K mg cm base) {a : Addr} {f : Addr} {cdv : Value} {A : Around} {outer : List Env} {s : Shared} {H : Hp} {E : XK} (ck : Cok (dtx P w K mg base cm ["_law_source_here", "_law_top", "_law_found", "_law_room", "_law_name", "_law_period"] "_law_bells" (defScope s_law_bells) f cdv A outer s H E (some a)) 3) : RSs (dtx P w K mg base cm ["_law_source_here", "_law_top", "_law_found", "_law_room", "_law_name", "_law_period"] "_law_bells" (defScope s_law_bells) f cdv A outer s H E (some a)) (defBody s_law_bells) c_law_bells :=
 (rss_cons (rs_par2 2 3 (rr_cons (re_lst ra_nil) (rr_cons (re_var 1) rr_nil)) ck.calm ck.nd)
 (rss_cons (rs_for ck.own ck.calm (ri_seq (re_callB (call_sortedF ck) X.b_sorted (ro_cons (re_sli (re_callM (ok_law_mixed X) (ck.mono (by decide)) (re_var 0) (ra_cons (re_callTy (call_listF ck.calm) X.b_list (ro_cons re_str ro_nil)) ra_nil)) roN (roS (re_bin op_addD re_int (re_callM (ok_law_next X) (ck.mono (by decide)) (re_var 0) (ra_cons re_int ra_nil))))) ro_nil))) (rg_name 4 ck.nd)
 (rss_cons (rs_set 5 (re_bin op_addD re_int (re_callM (ok_law_next X) (ck.mono (by decide)) (re_var 0) (ra_cons (re_callB (call_minF ck.calm) X.b_min (ro_cons (re_var 3) (ro_cons re_int ro_nil))) ra_nil))) ck.nd)
 (rss_cons (rs_expr (re_append (re_var 2) (ra_cons (re_tup (ra_cons (re_var 4) (ra_cons (re_var 5) ra_nil))) ra_nil)))
 (rss_one (rs_set 3 (re_bin op_divD (re_var 3) (re_var 5)) ck.nd)))))
 (rss_one (rs_ret (re_callTy call_tupB X.b_tuple (ro_cons (re_var 2) ro_nil))))))
theorem ok_law_bells (X : Txt K mg cm base) : DefM P w K mg base cm 4 "_law_bells" ["_law_source_here", "_law_top"] F_law_bells := by
  obtain ⟨f, fd, h1, h2, h3, Fu⟩ := X.f_law_bells
  exact ⟨f, fd, h1, h2, h3, (def_lent Fu sc_law_bells (by decide) fun a cdv A outer s H E ck => b_law_bells X ck)⟩
theorem b_law_at (X : Txt K mg cm base) {f : Addr} {cdv : Value} {A : Around} {outer : List Env} {s : Shared} {H : Hp} {E : XK} (ck : Cok (dtx P w K mg base cm ["_law_bells_here", "_law_row_here", "_law_time", "_law_found", "_law_name", "_law_period", "_law_x"] "_law_at" (defScope s_law_at) f cdv A outer s H E none) 1) : RSs (dtx P w K mg base cm ["_law_bells_here", "_law_row_here", "_law_time", "_law_found", "_law_name", "_law_period", "_law_x"] "_law_at" (defScope s_law_at) f cdv A outer s H E none) (defBody s_law_at) c_law_at :=
 (rss_cons (rs_set 3 re_str ck.nd)
 (rss_cons (rs_for ck.own ck.calm (ri_zip2 (ra_cons (re_var 0) (ra_cons (re_var 1) ra_nil)) X.b_zip) (rg_tup (rgs_cons (rg_tup (rgs_cons (rg_name 4 ck.nd) (rgs_cons (rg_name 5 ck.nd) rgs_nil)) ck.calm) (rgs_cons (rg_name 6 ck.nd) rgs_nil)) ck.calm)
 (rss_one (rs_set 3 (re_bin op_addD (re_var 3) (re_ifE (rt_cmp (op_eqDD ck.room) (re_bin op_modD (re_var 2) (re_var 5)) (re_var 6)) (re_var 4) re_str)) ck.nd)))
 (rss_one (rs_ret (re_var 3)))))
theorem ok_law_at (X : Txt K mg cm base) : DefP P w K mg base cm 2 "_law_at" ["_law_bells_here", "_law_row_here", "_law_time"] F_law_at := by
  obtain ⟨f, fd, h1, h2, h3, Fu⟩ := X.f_law_at
  exact ⟨f, fd, h1, h2, h3, (def_pure Fu sc_law_at fun cdv A outer s H E ck => b_law_at X ck)⟩
theorem b_law_timed (X : Txt K mg cm base) {f : Addr} {cdv : Value} {A : Around} {outer : List Env} {s : Shared} {H : Hp} {E : XK} (ck : Cok (dtx P w K mg base cm ["_law_bells_here", "_law_row_here", "_law_many", "_law_found", "_law_time", "_law_chime"] "_law_timed" (defScope s_law_timed) f cdv A outer s H E none) 2) : RSs (dtx P w K mg base cm ["_law_bells_here", "_law_row_here", "_law_many", "_law_found", "_law_time", "_law_chime"] "_law_timed" (defScope s_law_timed) f cdv A outer s H E none) (defBody s_law_timed) c_law_timed :=
 (rss_cons (rs_par2 3 4 (rr_cons (re_lst ra_nil) (rr_cons re_int rr_nil)) ck.calm ck.nd)
 (rss_cons (rs_while ck.own (rt_cmp op_ltD (re_callB call_lenF X.b_len (ro_cons (re_var 3) ro_nil)) (re_var 2))
 (rss_cons (rs_set 5 (re_call (ok_law_at X) (ck.mono (by decide)) (ra_cons (re_var 0) (ra_cons (re_var 1) (ra_cons (re_var 4) ra_nil)))) ck.nd)
 (rss_cons (rs_if (rt_cmp (op_neDD ck.room) (re_var 5) re_str)
 (rss_one (rs_expr (re_append (re_var 3) (ra_cons (re_tup (ra_cons (re_var 4) (ra_cons (re_var 5) ra_nil))) ra_nil))))
 rss_nil)
 (rss_one (rs_set 4 (re_bin op_addD (re_var 4) re_int) ck.nd)))))
 (rss_one (rs_ret (re_var 3)))))
theorem ok_law_timed (X : Txt K mg cm base) : DefP P w K mg base cm 3 "_law_timed" ["_law_bells_here", "_law_row_here", "_law_many"] F_law_timed := by
  obtain ⟨f, fd, h1, h2, h3, Fu⟩ := X.f_law_timed
  exact ⟨f, fd, h1, h2, h3, (def_pure Fu sc_law_timed fun cdv A outer s H E ck => b_law_timed X ck)⟩
theorem b_law_chimes (X : Txt K mg cm base) {f : Addr} {cdv : Value} {A : Around} {outer : List Env} {s : Shared} {H : Hp} {E : XK} (ck : Cok (dtx P w K mg base cm ["_law_bells_here", "_law_row_here", "_law_many", "_law_time", "_law_chime"] "_law_chimes" (defScope s_law_chimes) f cdv A outer s H E none) 3) : RSs (dtx P w K mg base cm ["_law_bells_here", "_law_row_here", "_law_many", "_law_time", "_law_chime"] "_law_chimes" (defScope s_law_chimes) f cdv A outer s H E none) (defBody s_law_chimes) c_law_chimes :=
 (rss_one (rs_ret (re_callTy call_tupleF X.b_tuple (ro_cons (re_lc [("_law_time", 3), ("_law_chime", 4)] ck (ri_seq (re_call (ok_law_timed X) (ck.mono (by decide)) (ra_cons (re_var 0) (ra_cons (re_var 1) (ra_cons (re_var 2) ra_nil))))) (fun s H C cl fp => (rgw_tup (rgsw_cons (rgw_name 3 (ck.blk _ _ _ _ _).nd) (rgsw_cons (rgw_name 4 (ck.blk _ _ _ _ _).nd) rgsw_nil)) (ck.blk _ _ _ _ _).calm)) (fun s H C cl fp => rts_nil) (fun s H C cl fp => (re_var 4)) (ok := by show blkC ["_law_bells_here", "_law_row_here", "_law_many", "_law_time", "_law_chime"] (defScope s_law_chimes) _ [("_law_time", 3), ("_law_chime", 4)] = true; decide +kernel)) ro_nil))))
theorem ok_law_chimes (X : Txt K mg cm base) : DefP P w K mg base cm 4 "_law_chimes" ["_law_bells_here", "_law_row_here", "_law_many"] F_law_chimes := by
  obtain ⟨f, fd, h1, h2, h3, Fu⟩ := X.f_law_chimes
  exact ⟨f, fd, h1, h2, h3, (def_pure Fu sc_law_chimes fun cdv A outer s H E ck => b_law_chimes X ck)⟩
theorem b_law_row (X : Txt K mg cm base) {a : Addr} {f : Addr} {cdv : Value} {A : Around} {outer : List Env} {s : Shared} {H : Hp} {E : XK} (ck : Cok (dtx P w K mg base cm ["_law_source_here", "_law_bells_here", "_law_name", "_law_period"] "_law_row" (defScope s_law_row) f cdv A outer s H E (some a)) 2) : RSs (dtx P w K mg base cm ["_law_source_here", "_law_bells_here", "_law_name", "_law_period"] "_law_row" (defScope s_law_row) f cdv A outer s H E (some a)) (defBody s_law_row) c_law_row :=
 (rss_one (rs_ret (re_callTy call_tupleF X.b_tuple (ro_cons (re_lc [("_law_name", 2), ("_law_period", 3)] ck (ri_seq (re_var 1)) (fun s H C cl fp => (rgw_tup (rgsw_cons (rgw_name 2 (ck.blk _ _ _ _ _).nd) (rgsw_cons (rgw_name 3 (ck.blk _ _ _ _ _).nd) rgsw_nil)) (ck.blk _ _ _ _ _).calm)) (fun s H C cl fp => rts_nil) (fun s H C cl fp => (re_callM (ok_law_next X) ((ck.blk _ _ _ _ _).mono (by decide)) (re_var 0) (ra_cons (re_var 3) ra_nil))) (ok := by show blkC ["_law_source_here", "_law_bells_here", "_law_name", "_law_period"] (defScope s_law_row) _ [("_law_name", 2), ("_law_period", 3)] = true; decide +kernel)) ro_nil))))
theorem ok_law_row (X : Txt K mg cm base) : DefM P w K mg base cm 3 "_law_row" ["_law_source_here", "_law_bells_here"] F_law_row := by
  obtain ⟨f, fd, h1, h2, h3, Fu⟩ := X.f_law_row
  exact ⟨f, fd, h1, h2, h3, (def_lent Fu sc_law_row (by decide) fun a cdv A outer s H E ck => b_law_row X ck)⟩
theorem b_is_name (X : Txt K mg cm base) {f : Addr} {cdv : Value} {A : Around} {outer : List Env} {s : Shared} {H : Hp} {E : XK} (ck : Cok (dtx P w K mg base cm ["value"] "is_name" (defScope s_is_name) f cdv A outer s H E none) 1) : RSs (dtx P w K mg base cm ["value"] "is_name" (defScope s_is_name) f cdv A outer s H E none) (defBody s_is_name) c_is_name :=
 (rss_one (rs_ret (re_and (re_callB (call_isiO (isi_X X)) X.b_isinstance (ro_cons (re_var 0) (ro_cons (re_ty X.b_str) ro_nil))) (re_and (re_cmp (op_eqDD ck.room) (re_callB call_lenF X.b_len (ro_cons (re_var 0) ro_nil)) re_int) (re_one (re_cmp (op_inDD ck.room) (re_var 0) (re_glob (v := .str "abcdefghijklmnopqrstuvwxyz") X.g_LETTERS.choose_spec ⟨_, rfl⟩ (fun _ => .str _))))))))
theorem ok_is_name (X : Txt K mg cm base) : DefP P w K mg base cm 2 "is_name" ["value"] F_is_name := by
  obtain ⟨f, fd, h1, h2, h3, Fu⟩ := X.f_is_name
  exact ⟨f, fd, h1, h2, h3, (def_pure Fu sc_is_name fun cdv A outer s H E ck => b_is_name X ck)⟩
theorem b_is_integer (X : Txt K mg cm base) {f : Addr} {cdv : Value} {A : Around} {outer : List Env} {s : Shared} {H : Hp} {E : XK} (ck : Cok (dtx P w K mg base cm ["value", "least", "most"] "is_integer" (defScope s_is_integer) f cdv A outer s H E none) 1) : RSs (dtx P w K mg base cm ["value", "least", "most"] "is_integer" (defScope s_is_integer) f cdv A outer s H E none) (defBody s_is_integer) c_is_integer :=
 (rss_cons (rs_if (RW.rt (rw_or (rt_not (rt_val (re_callB (call_isiO (isi_X X)) X.b_isinstance (ro_cons (re_var 0) (ro_cons (re_ty X.b_int) ro_nil))))) (rw_or1 (rt_val (re_callB (call_isiO (isi_X X)) X.b_isinstance (ro_cons (re_var 0) (ro_cons (re_ty X.b_bool) ro_nil)))))))
 (rss_one (rs_ret re_bl))
 rss_nil)
 (rss_one (rs_ret (re_and (re_orV (re_isN (re_var 1)) (re_one (re_cmp op_leD (re_var 1) (re_var 0)))) (re_one (re_orV (re_isN (re_var 2)) (re_one (re_cmp op_leD (re_var 0) (re_var 2)))))))))
theorem ok_is_integer (X : Txt K mg cm base) : DefP P w K mg base cm 2 "is_integer" ["value", "least", "most"] F_is_integer := by
  obtain ⟨f, fd, h1, h2, h3, Fu⟩ := X.f_is_integer
  exact ⟨f, fd, h1, h2, h3, (def_pure Fu sc_is_integer fun cdv A outer s H E ck => b_is_integer X ck)⟩
theorem b_is_bell (X : Txt K mg cm base) {f : Addr} {cdv : Value} {A : Around} {outer : List Env} {s : Shared} {H : Hp} {E : XK} (ck : Cok (dtx P w K mg base cm ["value"] "is_bell" (defScope s_is_bell) f cdv A outer s H E none) 2) : RSs (dtx P w K mg base cm ["value"] "is_bell" (defScope s_is_bell) f cdv A outer s H E none) (defBody s_is_bell) c_is_bell :=
 (rss_cons (rs_if (RW.rt (rw_or (rt_not (rt_val (re_callB (call_isiO (isi_X X)) X.b_isinstance (ro_cons (re_var 0) (ro_cons (re_ty X.b_tuple) ro_nil))))) (rw_or (rt_cmp (op_neDD ck.room) (re_callB call_lenF X.b_len (ro_cons (re_var 0) ro_nil)) re_int) (rw_or1 (rt_not (rt_val (re_call (ok_is_name X) (ck.mono (by decide)) (ra_cons (re_ix (re_var 0) re_int) ra_nil))))))))
 (rss_one (rs_ret re_bl))
 rss_nil)
 (rss_one (rs_ret (re_call (ok_is_integer X) (ck.mono (by decide)) (ra_cons (re_ix (re_var 0) re_int) (ra_cons re_int (ra_cons (re_clsCon 6 (v := .int 30) X.mg_Tower X.cv_Tower_MAX_PERIOD.choose_spec.choose_spec.1 X.cv_Tower_MAX_PERIOD.choose_spec.choose_spec.2 (fun _ => .int _)) ra_nil)))))))
theorem ok_is_bell (X : Txt K mg cm base) : DefP P w K mg base cm 3 "is_bell" ["value"] F_is_bell := by
  obtain ⟨f, fd, h1, h2, h3, Fu⟩ := X.f_is_bell
  exact ⟨f, fd, h1, h2, h3, (def_pure Fu sc_is_bell fun cdv A outer s H E ck => b_is_bell X ck)⟩
theorem b_tower_faults (X : Txt K mg cm base) {f : Addr} {cdv : Value} {A : Around} {outer : List Env} {s : Shared} {H : Hp} {E : XK} (ck : Cok (dtx P w K mg base cm ["value", "before", "index", "bell"] "tower_faults" (defScope s_tower_faults) f cdv A outer s H E none) 3) : RSs (dtx P w K mg base cm ["value", "before", "index", "bell"] "tower_faults" (defScope s_tower_faults) f cdv A outer s H E none) (defBody s_tower_faults) c_tower_faults :=
 (rss_cons (rs_if (RW.rt (rw_or (rt_not (rt_val (re_callB (call_isiO (isi_X X)) X.b_isinstance (ro_cons (re_var 0) (ro_cons (re_ty X.b_tuple) ro_nil))))) (rw_or1 (rt_not (rt_chain op_leD op_leD re_int (re_callB call_lenF X.b_len (ro_cons (re_var 0) ro_nil)) (re_clsCon 6 (v := .int 5) X.mg_Tower X.cv_Tower_MAX_BELLS.choose_spec.choose_spec.1 X.cv_Tower_MAX_BELLS.choose_spec.choose_spec.2 (fun _ => .int _)))))))
 (rss_one (rs_ret (re_lst (ra_cons re_non ra_nil))))
 rss_nil)
 (rss_cons (rs_set 1 re_str ck.nd)
 (rss_cons (rs_for ck.own ck.calm (ri_enum (ra_cons (re_var 0) ra_nil) X.b_enumerate) (rg_tup (rgs_cons (rg_name 2 ck.nd) (rgs_cons (rg_name 3 ck.nd) rgs_nil)) ck.calm)
 (rss_cons (rs_if (RW.rt (rw_or (rt_not (rt_val (re_call (ok_is_bell X) (ck.mono (by decide)) (ra_cons (re_var 3) ra_nil)))) (rw_or1 (rt_cmp op_leD (re_ix (re_var 3) re_int) (re_var 1)))))
 (rss_one (rs_ret (re_lst (ra_cons (re_var 2) ra_nil))))
 rss_nil)
 (rss_one (rs_set 1 (re_ix (re_var 3) re_int) ck.nd))))
 (rss_one (rs_ret (re_lst ra_nil))))))
theorem ok_tower_faults (X : Txt K mg cm base) : DefP P w K mg base cm 4 "tower_faults" ["value"] F_tower_faults := by
  obtain ⟨f, fd, h1, h2, h3, Fu⟩ := X.f_tower_faults
  exact ⟨f, fd, h1, h2, h3, (def_pure Fu sc_tower_faults fun cdv A outer s H E ck => b_tower_faults X ck)⟩
theorem b_common_multiple (X : Txt K mg cm base) {f : Addr} {cdv : Value} {A : Around} {outer : List Env} {s : Shared} {H : Hp} {E : XK} (ck : Cok (dtx P w K mg base cm ["numbers", "found", "number", "one", "other"] "common_multiple" (defScope s_common_multiple) f cdv A outer s H E none) 1) : RSs (dtx P w K mg base cm ["numbers", "found", "number", "one", "other"] "common_multiple" (defScope s_common_multiple) f cdv A outer s H E none) (defBody s_common_multiple) c_common_multiple :=
 (rss_cons (rs_set 1 re_int ck.nd)
 (rss_cons (rs_for ck.own ck.calm (ri_seq (re_var 0)) (rg_name 2 ck.nd)
 (rss_cons (rs_par2 3 4 (rr_cons (re_var 1) (rr_cons (re_var 2) rr_nil)) ck.calm ck.nd)
 (rss_cons (rs_while ck.own (rt_cmp op_gtD (re_var 4) re_int)
 (rss_one (rs_par2 3 4 (rr_cons (re_var 4) (rr_cons (re_bin op_modD (re_var 3) (re_var 4)) rr_nil)) ck.calm ck.nd)))
 (rss_one (rs_set 1 (re_bin op_mulD (re_bin op_divD (re_var 1) (re_var 3)) (re_var 2)) ck.nd)))))
 (rss_one (rs_ret (re_var 1)))))
theorem ok_common_multiple (X : Txt K mg cm base) : DefP P w K mg base cm 2 "common_multiple" ["numbers"] F_common_multiple := by
  obtain ⟨f, fd, h1, h2, h3, Fu⟩ := X.f_common_multiple
  exact ⟨f, fd, h1, h2, h3, (def_pure Fu sc_common_multiple fun cdv A outer s H E ck => b_common_multiple X ck)⟩
theorem b_Tower___init (X : Txt K mg cm base) {a : Addr} {f : Addr} {cdv : Value} {A : Around} {outer : List Env} {s : Shared} {H : Hp} {E : XK} (ck : Cok (dtx P w K mg base cm ["self", "bells", "index", "name", "period"] "Tower.__init__" (defScope s_Tower___init) f cdv A outer s H E (some a)) 4) : RSs (dtx P w K mg base cm ["self", "bells", "index", "name", "period"] "Tower.__init__" (defScope s_Tower___init) f cdv A outer s H E (some a)) (defBody s_Tower___init) c_Tower___init :=
 (rss_cons (rs_for ck.own ck.calm (ri_seq (re_call (ok_tower_faults X) (ck.mono (by decide)) (ra_cons (re_var 1) ra_nil))) (rg_name 2 ck.nd)
 (rss_one (rs_raise1 (k := 1) 1 (rz_InvalidTower X) (ck.mono (by decide)) (ra_cons (re_var 2) ra_nil))))
 (rss_cons (rs_putF 6 X.cl_Tower X.na_Tower_own_bells (re_var 0) (re_var 1))
 (rss_cons (rs_putF 6 X.cl_Tower X.na_Tower_own_names (re_var 0) (re_join re_str (re_lc [("name", 3), ("period", 4)] ck (ri_seq (re_var 1)) (fun s H C cl fp => (rgw_tup (rgsw_cons (rgw_name 3 (ck.blk _ _ _ _ _).nd) (rgsw_cons (rgw_name 4 (ck.blk _ _ _ _ _).nd) rgsw_nil)) (ck.blk _ _ _ _ _).calm)) (fun s H C cl fp => rts_nil) (fun s H C cl fp => (re_var 3)) (ok := by show blkC ["self", "bells", "index", "name", "period"] (defScope s_Tower___init) _ [("name", 3), ("period", 4)] = true; decide +kernel))))
 (rss_cons (rs_putF 6 X.cl_Tower X.na_Tower_own_periods (re_var 0) (re_callTy call_tupleF X.b_tuple (ro_cons (re_lc [("name", 3), ("period", 4)] ck (ri_seq (re_var 1)) (fun s H C cl fp => (rgw_tup (rgsw_cons (rgw_name 3 (ck.blk _ _ _ _ _).nd) (rgsw_cons (rgw_name 4 (ck.blk _ _ _ _ _).nd) rgsw_nil)) (ck.blk _ _ _ _ _).calm)) (fun s H C cl fp => rts_nil) (fun s H C cl fp => (re_var 4)) (ok := by show blkC ["self", "bells", "index", "name", "period"] (defScope s_Tower___init) _ [("name", 3), ("period", 4)] = true; decide +kernel)) ro_nil)))
 (rss_one (rs_putF 6 X.cl_Tower X.na_Tower_own_round (re_var 0) (re_call (ok_common_multiple X) (ck.mono (by decide)) (ra_cons (re_fld 6 X.cl_Tower X.na_Tower_own_periods (re_var 0)) ra_nil))))))))
theorem mk_Tower (X : Txt K mg cm base) : DefMk P w K mg base cm 5 "Tower" 6 ["self", "bells"] F_Tower___init := by
  obtain ⟨f, fd, h1, h2, Fu⟩ := X.i_Tower
  exact ⟨f, fd, X.mg_Tower, h1, h2, (def_lent Fu sc_Tower___init (by decide) fun a cdv A outer s H E ck => b_Tower___init X ck)⟩
theorem b_is_chime (X : Txt K mg cm base) {f : Addr} {cdv : Value} {A : Around} {outer : List Env} {s : Shared} {H : Hp} {E : XK} (ck : Cok (dtx P w K mg base cm ["names", "value", "name"] "is_chime" (defScope s_is_chime) f cdv A outer s H E none) 1) : RSs (dtx P w K mg base cm ["names", "value", "name"] "is_chime" (defScope s_is_chime) f cdv A outer s H E none) (defBody s_is_chime) c_is_chime :=
 (rss_cons (rs_if (RW.rt (rw_or (rt_not (rt_val (re_callB (call_isiO (isi_X X)) X.b_isinstance (ro_cons (re_var 1) (ro_cons (re_ty X.b_str) ro_nil))))) (rw_or (rt_cmp (op_eqDD ck.room) (re_var 1) re_str) (rw_or1 (rt_cmp op_gtD (re_callB call_lenF X.b_len (ro_cons (re_var 1) ro_nil)) (re_callB call_lenF X.b_len (ro_cons (re_var 0) ro_nil)))))))
 (rss_one (rs_ret re_bl))
 rss_nil)
 (rss_one (rs_ret (re_cmp (op_eqDD ck.room) (re_join re_str (re_lc [("name", 2)] ck (ri_seq (re_var 0)) (fun s H C cl fp => (rgw_name 2 (ck.blk _ _ _ _ _).nd)) (fun s H C cl fp => (rts_one (rt_cmp (op_inDD (ck.blk _ _ _ _ _).room) (re_var 2) (re_var 1)))) (fun s H C cl fp => (re_var 2)) (ok := by show blkC ["names", "value", "name"] (defScope s_is_chime) _ [("name", 2)] = true; decide +kernel))) (re_var 1)))))
theorem ok_is_chime (X : Txt K mg cm base) : DefP P w K mg base cm 2 "is_chime" ["names", "value"] F_is_chime := by
  obtain ⟨f, fd, h1, h2, h3, Fu⟩ := X.f_is_chime
  exact ⟨f, fd, h1, h2, h3, (def_pure Fu sc_is_chime fun cdv A outer s H E ck => b_is_chime X ck)⟩
theorem b_Tower_check_heard (X : Txt K mg cm base) {f : Addr} {cdv : Value} {A : Around} {outer : List Env} {s : Shared} {H : Hp} {E : XK} (ck : Cok (dtx P w K mg base cm ["self", "value", "index", "chime"] "Tower.check_heard" (defScope s_Tower_check_heard) f cdv A outer s H E none) 4) : RSs (dtx P w K mg base cm ["self", "value", "index", "chime"] "Tower.check_heard" (defScope s_Tower_check_heard) f cdv A outer s H E none) (defBody s_Tower_check_heard) c_Tower_check_heard :=
 (rss_cons (rs_if (RW.rt (rw_or (rt_not (rt_val (re_callB (call_isiO (isi_X X)) X.b_isinstance (ro_cons (re_var 1) (ro_cons (re_ty X.b_tuple) ro_nil))))) (rw_or1 (rt_cmp op_gtD (re_callB call_lenF X.b_len (ro_cons (re_var 1) ro_nil)) (re_insCon 6 X.cl_Tower X.co_Tower_MAX_HEARD.choose_spec (fun _ => .int _) (re_var 0))))))
 (rss_one (rs_raise1 (k := 1) 3 (rz_InvalidHeard X) (ck.mono (by decide)) (ra_cons re_non ra_nil)))
 rss_nil)
 (rss_one (rs_for ck.own ck.calm (ri_enum (ra_cons (re_var 1) ra_nil) X.b_enumerate) (rg_tup (rgs_cons (rg_name 2 ck.nd) (rgs_cons (rg_name 3 ck.nd) rgs_nil)) ck.calm)
 (rss_one (rs_if (rt_not (rt_val (re_call (ok_is_chime X) (ck.mono (by decide)) (ra_cons (re_fld 6 X.cl_Tower X.na_Tower_own_names (re_var 0)) (ra_cons (re_var 3) ra_nil)))))
 (rss_one (rs_raise1 (k := 1) 3 (rz_InvalidHeard X) (ck.mono (by decide)) (ra_cons (re_var 2) ra_nil)))
 rss_nil)))))
theorem me_Tower_check_heard (X : Txt K mg cm base) : DefMet P w K mg base cm 5 6 "check_heard" ["self", "value"] F_Tower_check_heard := by
  obtain ⟨f, fd, h1, h2, Fu⟩ := X.m_Tower_check_heard
  exact ⟨f, fd, X.cl_Tower, h1, h2, (def_pure Fu sc_Tower_check_heard fun cdv A outer s H E ck => b_Tower_check_heard X ck)⟩
theorem b_heard_text (X : Txt K mg cm base) {f : Addr} {cdv : Value} {A : Around} {outer : List Env} {s : Shared} {H : Hp} {E : XK} (ck : Cok (dtx P w K mg base cm ["tower", "heard"] "heard_text" (defScope s_heard_text) f cdv A outer s H E none) 5) : RSs (dtx P w K mg base cm ["tower", "heard"] "heard_text" (defScope s_heard_text) f cdv A outer s H E none) (defBody s_heard_text) c_heard_text :=
 (rss_cons (rs_expr (re_meth 6 (me_Tower_check_heard X) (ck.mono (by decide)) (re_var 0) (ra_cons (re_var 1) ra_nil)))
 (rss_one (rs_ret (re_ifE (rt_cmp (op_neDD ck.room) (re_var 1) (re_tup ra_nil)) (re_join re_str (re_var 1)) re_str))))
theorem ok_heard_text (X : Txt K mg cm base) : DefP P w K mg base cm 6 "heard_text" ["tower", "heard"] F_heard_text := by
  obtain ⟨f, fd, h1, h2, h3, Fu⟩ := X.f_heard_text
  exact ⟨f, fd, h1, h2, h3, (def_pure Fu sc_heard_text fun cdv A outer s H E ck => b_heard_text X ck)⟩
theorem b_Tower_bells (X : Txt K mg cm base) {f : Addr} {cdv : Value} {A : Around} {outer : List Env} {s : Shared} {H : Hp} {E : XK} (ck : Cok (dtx P w K mg base cm ["self"] "Tower.bells" (defScope s_Tower_bells) f cdv A outer s H E none) 1) : RSs (dtx P w K mg base cm ["self"] "Tower.bells" (defScope s_Tower_bells) f cdv A outer s H E none) (defBody s_Tower_bells) c_Tower_bells :=
 (rss_one (rs_ret (re_fld 6 X.cl_Tower X.na_Tower_own_bells (re_var 0))))
theorem pr_Tower_bells (X : Txt K mg cm base) : DefPr P w K mg base cm 2 6 "bells" F_Tower_bells := by
  obtain ⟨p, f, fd, h1, h2, Fu⟩ := X.p_Tower_bells
  exact ⟨p, f, fd, X.cl_Tower, h1, h2, (def_pure Fu sc_Tower_bells fun cdv A outer s H E ck => b_Tower_bells X ck)⟩
theorem b_tower_text (X : Txt K mg cm base) {f : Addr} {cdv : Value} {A : Around} {outer : List Env} {s : Shared} {H : Hp} {E : XK} (ck : Cok (dtx P w K mg base cm ["tower", "name", "period"] "tower_text" (defScope s_tower_text) f cdv A outer s H E none) 3) : RSs (dtx P w K mg base cm ["tower", "name", "period"] "tower_text" (defScope s_tower_text) f cdv A outer s H E none) (defBody s_tower_text) c_tower_text :=
 (rss_one (rs_ret (re_join re_str (re_lc [("name", 1), ("period", 2)] ck (ri_seq (re_prop 6 (pr_Tower_bells X) (ck.mono (by decide)) (re_var 0))) (fun s H C cl fp => (rgw_tup (rgsw_cons (rgw_name 1 (ck.blk _ _ _ _ _).nd) (rgsw_cons (rgw_name 2 (ck.blk _ _ _ _ _).nd) rgsw_nil)) (ck.blk _ _ _ _ _).calm)) (fun s H C cl fp => rts_nil) (fun s H C cl fp => (re_joined (.cons (re_fmt (re_var 1)) (.cons re_str (.cons (re_fmt (re_var 2)) .nil))))) (ok := by show blkC ["tower", "name", "period"] (defScope s_tower_text) _ [("name", 1), ("period", 2)] = true; decide +kernel)))))
theorem ok_tower_text (X : Txt K mg cm base) : DefP P w K mg base cm 4 "tower_text" ["tower"] F_tower_text := by
  obtain ⟨f, fd, h1, h2, h3, Fu⟩ := X.f_tower_text
  exact ⟨f, fd, h1, h2, h3, (def_pure Fu sc_tower_text fun cdv A outer s H E ck => b_tower_text X ck)⟩
theorem b_law_bent_page (X : Txt K mg cm base) {a : Addr} {f : Addr} {cdv : Value} {A : Around} {outer : List Env} {s : Shared} {H : Hp} {E : XK} (ck : Cok (dtx P w K mg base cm ["_law_source_here", "_law_page", "_law_at_here", "_law_way", "_law_sign", "_law_some"] "_law_bent_page" (defScope s_law_bent_page) f cdv A outer s H E (some a)) 2) : RSs (dtx P w K mg base cm ["_law_source_here", "_law_page", "_law_at_here", "_law_way", "_law_sign", "_law_some"] "_law_bent_page" (defScope s_law_bent_page) f cdv A outer s H E (some a)) (defBody s_law_bent_page) c_law_bent_page :=
 (rss_cons (rs_par2 2 3 (rr_cons (re_callM (ok_law_next X) (ck.mono (by decide)) (re_var 0) (ra_cons (re_bin op_addD (re_callB call_lenF X.b_len (ro_cons (re_var 1) ro_nil)) re_int) ra_nil)) (rr_cons (re_callM (ok_law_next X) (ck.mono (by decide)) (re_var 0) (ra_cons re_int ra_nil)) rr_nil)) ck.calm ck.nd)
 (rss_cons (rs_set 4 (re_ix (re_lst (ra_cons re_str (ra_cons re_str (ra_cons re_str (ra_cons re_str (ra_cons re_str (ra_cons re_str (ra_cons re_str (ra_cons re_str (ra_cons re_str (ra_cons re_str ra_nil))))))))))) (re_callM (ok_law_next X) (ck.mono (by decide)) (re_var 0) (ra_cons re_int ra_nil))) ck.nd)
 (rss_cons (rs_set 5 (re_lst (ra_cons (re_bin op_addD (re_bin op_addD (re_sli (re_var 1) roN (roS (re_var 2))) (re_var 4)) (re_sli (re_var 1) (roS (re_var 2)) roN)) (ra_cons (re_bin op_addD (re_sli (re_var 1) roN (roS (re_var 2))) (re_sli (re_var 1) (roS (re_bin op_addD (re_var 2) re_int)) roN)) (ra_cons (re_bin op_addD (re_bin op_addD (re_sli (re_var 1) roN (roS (re_var 2))) (re_var 4)) (re_sli (re_var 1) (roS (re_bin op_addD (re_var 2) re_int)) roN)) ra_nil)))) ck.nd)
 (rss_cons (rs_set 5 (re_bin op_addD (re_var 5) (re_lst (ra_cons (re_bin op_addD (re_var 1) re_str) (ra_cons (re_bin op_addD re_str (re_var 1)) (ra_cons (re_bin op_addD (re_var 1) re_str) (ra_cons (re_bin op_addD (re_var 1) (re_var 4)) (ra_cons (re_bin op_addD (re_bin op_addD (re_sli (re_var 1) roN (roS (re_var 2))) (re_sli (re_var 1) roN (roS re_int))) (re_sli (re_var 1) (roS (re_var 2)) roN)) ra_nil))))))) ck.nd)
 (rss_one (rs_ret (re_ix (re_var 5) (re_var 3))))))))
theorem ok_law_bent_page (X : Txt K mg cm base) : DefM P w K mg base cm 3 "_law_bent_page" ["_law_source_here", "_law_page"] F_law_bent_page := by
  obtain ⟨f, fd, h1, h2, h3, Fu⟩ := X.f_law_bent_page
  exact ⟨f, fd, h1, h2, h3, (def_lent Fu sc_law_bent_page (by decide) fun a cdv A outer s H E ck => b_law_bent_page X ck)⟩
theorem b_law_tower_read (X : Txt K mg cm base) {f : Addr} {cdv : Value} {A : Around} {outer : List Env} {s : Shared} {H : Hp} {E : XK} (ck : Cok (dtx P w K mg base cm ["_law_page", "_law_found", "_law_before", "_law_k", "_law_line", "_law_words", "_law_period"] "_law_tower_read" (defScope s_law_tower_read) f cdv A outer s H E none) 1) : RSs (dtx P w K mg base cm ["_law_page", "_law_found", "_law_before", "_law_k", "_law_line", "_law_words", "_law_period"] "_law_tower_read" (defScope s_law_tower_read) f cdv A outer s H E none) (defBody s_law_tower_read) c_law_tower_read :=
 (rss_cons (rs_par2 1 2 (rr_cons (re_lst ra_nil) (rr_cons re_str rr_nil)) ck.calm ck.nd)
 (rss_cons (rs_for ck.own ck.calm (ri_enum (ra_cons (re_split (re_var 0) re_str) ra_nil) X.b_enumerate) (rg_tup (rgs_cons (rg_name 3 ck.nd) (rgs_cons (rg_name 4 ck.nd) rgs_nil)) ck.calm)
 (rss_cons (rs_set 5 (re_split (re_var 4) re_str) ck.nd)
 (rss_cons (rs_if (RW.rt (rw_or (rt_cmp op_gtD (re_var 3) re_int) (rw_or (rt_cmp (op_neDD ck.room) (re_callB call_lenF X.b_len (ro_cons (re_ix (re_var 5) re_int) ro_nil)) re_int) (rw_or (rt_not (rt_chain op_leD op_leD re_str (re_ix (re_var 5) re_int) re_str)) (rw_or1 (rt_cmp op_leD (re_ix (re_var 5) re_int) (re_var 2)))))))
 (rss_one (rs_ret (re_tup (ra_cons (re_bin op_addD (re_var 3) re_int) (ra_cons re_int ra_nil)))))
 rss_nil)
 (rss_cons (rs_if (RW.rt (rw_or (rt_cmp (op_eqDD ck.room) (re_callB call_lenF X.b_len (ro_cons (re_var 5) ro_nil)) re_int) (rw_or1 (rt_cmp (op_notInDD ck.room) (re_ix (re_var 5) re_int) (re_lc [("_law_period", 6)] ck (ri_range2 (ra_cons re_int (ra_cons re_int ra_nil)) X.b_range) (fun s H C cl fp => (rgw_name 6 (ck.blk _ _ _ _ _).nd)) (fun s H C cl fp => rts_nil) (fun s H C cl fp => (re_callTy call_strIF X.b_str (ro_cons (re_var 6) ro_nil))) (ok := by show blkC ["_law_page", "_law_found", "_law_before", "_law_k", "_law_line", "_law_words", "_law_period"] (defScope s_law_tower_read) _ [("_law_period", 6)] = true; decide +kernel))))))
 (rss_one (rs_ret (re_tup (ra_cons (re_bin op_addD (re_var 3) re_int) (ra_cons re_int ra_nil)))))
 rss_nil)
 (rss_cons (rs_if (rt_cmp op_gtD (re_callB call_lenF X.b_len (ro_cons (re_var 5) ro_nil)) re_int)
 (rss_one (rs_ret (re_tup (ra_cons (re_bin op_addD (re_var 3) re_int) (ra_cons re_int ra_nil)))))
 rss_nil)
 (rss_cons (rs_set 2 (re_ix (re_var 5) re_int) ck.nd)
 (rss_one (rs_expr (re_append (re_var 1) (ra_cons (re_tup (ra_cons (re_ix (re_var 5) re_int) (ra_cons (re_callTy call_intSF X.b_int (ro_cons (re_ix (re_var 5) re_int) ro_nil)) ra_nil))) ra_nil))))))))))
 (rss_one (rs_ret (re_lst (ra_cons (re_callTy call_tupleF X.b_tuple (ro_cons (re_var 1) ro_nil)) ra_nil))))))
theorem ok_law_tower_read (X : Txt K mg cm base) : DefP P w K mg base cm 2 "_law_tower_read" ["_law_page"] F_law_tower_read := by
  obtain ⟨f, fd, h1, h2, h3, Fu⟩ := X.f_law_tower_read
  exact ⟨f, fd, h1, h2, h3, (def_pure Fu sc_law_tower_read fun cdv A outer s H E ck => b_law_tower_read X ck)⟩
theorem b_law_read_told (X : Txt K mg cm base) {f : Addr} {cdv : Value} {A : Around} {outer : List Env} {s : Shared} {H : Hp} {E : XK} {d0 : D} {o : Ans} (ck : Cok (dtx P w K mg base cm ["_law_action", "_law_caught", "_law_found", "e"] "_law_read_told" (defScope s_law_read_told) f cdv A outer s H E none) 1) (hact : ∀ (W : WX) (pn : List (Addr × Obj)) (xe : Value → Shared → Prop) (p1 p2 : Pos), Cok ((dtx P w K mg base cm ["_law_action", "_law_caught", "_law_found", "e"] "_law_read_told" (defScope s_law_read_told) f cdv A outer s H E none).tr W pn xe) 1 → RE ((dtx P w K mg base cm ["_law_action", "_law_caught", "_law_found", "e"] "_law_read_told" (defScope s_law_read_told) f cdv A outer s H E none).tr W pn xe) (.Call (.Name "_law_action" p1) [] [] p2) (sAct d0 o)) : RSs (dtx P w K mg base cm ["_law_action", "_law_caught", "_law_found", "e"] "_law_read_told" (defScope s_law_read_told) f cdv A outer s H E none) (defBody s_law_read_told) (c_law_read_told d0 o) :=
 (rss_cons (rs_asg (re_tup (ra_cons re_non (ra_cons re_non ra_nil))) (rg_tup (rgs_cons (rg_name 1 ck.nd) (rgs_cons (rg_name 2 ck.nd) rgs_nil)) ck.calm))
 (rss_cons (rs_tryK 3 1 _ m_ParseError ck (xm_ParseError X) ⟨rfl, by decide, .inl X.mg_ParseError⟩ (fun W pn xe ckt =>
 (rss_one (rs_set 2 (re_lst (ra_cons (hact _ _ _ _ _ ckt) ra_nil)) ckt.nd))))
 (rss_one (rs_ret (re_ifE (rt_isN (re_var 1)) (re_var 2) (re_tup (ra_cons (re_xfld 5 X.xf_ParseError X.xn_ParseError_line (re_var 1)) (ra_cons (re_xfld 5 X.xf_ParseError X.xn_ParseError_word (re_var 1)) ra_nil))))))))
theorem okl_law_read_told (X : Txt K mg cm base) : DefL P w K mg base cm 1 "_law_read_told" F_law_read_told := by
  obtain ⟨f, fd, h1, h2, h3, Fu⟩ := X.f_law_read_told
  exact ⟨f, s_law_read_told, ["_law_action", "_law_caught", "_law_found", "e"], "_law_action", fd, c_law_read_told, h1, h2, Fu, h3, sc_law_read_told, rfl, (by first | exact Or.inl rfl | exact Or.inr (Or.inl rfl)), ⟨by decide, by decide⟩, fun _ _ => rfl, fun cdv A outer s H E d0 o ck hact => b_law_read_told X ck hact⟩
theorem b_need_text (X : Txt K mg cm base) {f : Addr} {cdv : Value} {A : Around} {outer : List Env} {s : Shared} {H : Hp} {E : XK} (ck : Cok (dtx P w K mg base cm ["text"] "need_text" (defScope s_need_text) f cdv A outer s H E none) 4) : RSs (dtx P w K mg base cm ["text"] "need_text" (defScope s_need_text) f cdv A outer s H E none) (defBody s_need_text) c_need_text :=
 (rss_one (rs_if (rt_not (rt_val (re_callB (call_isiO (isi_X X)) X.b_isinstance (ro_cons (re_var 0) (ro_cons (re_ty X.b_str) ro_nil)))))
 (rss_one (rs_raise2 (k := 1) 5 (rz_ParseError X) (ck.mono (by decide)) (ra_cons re_int (ra_cons re_int ra_nil))))
 rss_nil))
theorem ok_need_text (X : Txt K mg cm base) : DefP P w K mg base cm 5 "need_text" ["text"] F_need_text := by
  obtain ⟨f, fd, h1, h2, h3, Fu⟩ := X.f_need_text
  exact ⟨f, fd, h1, h2, h3, (def_pure Fu sc_need_text fun cdv A outer s H E ck => b_need_text X ck)⟩
theorem b_is_period (X : Txt K mg cm base) {f : Addr} {cdv : Value} {A : Around} {outer : List Env} {s : Shared} {H : Hp} {E : XK} (ck : Cok (dtx P w K mg base cm ["word", "period"] "is_period" (defScope s_is_period) f cdv A outer s H E none) 1) : RSs (dtx P w K mg base cm ["word", "period"] "is_period" (defScope s_is_period) f cdv A outer s H E none) (defBody s_is_period) c_is_period :=
 (rss_one (rs_ret (re_cmp (op_inDD ck.room) (re_var 0) (re_lc [("period", 1)] ck (ri_range2 (ra_cons re_int (ra_cons (re_bin op_addD (re_clsCon 6 (v := .int 30) X.mg_Tower X.cv_Tower_MAX_PERIOD.choose_spec.choose_spec.1 X.cv_Tower_MAX_PERIOD.choose_spec.choose_spec.2 (fun _ => .int _)) re_int) ra_nil)) X.b_range) (fun s H C cl fp => (rgw_name 1 (ck.blk _ _ _ _ _).nd)) (fun s H C cl fp => rts_nil) (fun s H C cl fp => (re_callTy call_strIF X.b_str (ro_cons (re_var 1) ro_nil))) (ok := by show blkC ["word", "period"] (defScope s_is_period) _ [("period", 1)] = true; decide +kernel)))))
theorem ok_is_period (X : Txt K mg cm base) : DefP P w K mg base cm 2 "is_period" ["word"] F_is_period := by
  obtain ⟨f, fd, h1, h2, h3, Fu⟩ := X.f_is_period
  exact ⟨f, fd, h1, h2, h3, (def_pure Fu sc_is_period fun cdv A outer s H E ck => b_is_period X ck)⟩
theorem b_read_tower (X : Txt K mg cm base) {f : Addr} {cdv : Value} {A : Around} {outer : List Env} {s : Shared} {H : Hp} {E : XK} (ck : Cok (dtx P w K mg base cm ["text", "bells", "before", "index", "line", "number", "words"] "read_tower" (defScope s_read_tower) f cdv A outer s H E none) 6) : RSs (dtx P w K mg base cm ["text", "bells", "before", "index", "line", "number", "words"] "read_tower" (defScope s_read_tower) f cdv A outer s H E none) (defBody s_read_tower) c_read_tower :=
 (rss_cons (rs_expr (re_call (ok_need_text X) (ck.mono (by decide)) (ra_cons (re_var 0) ra_nil)))
 (rss_cons (rs_par2 1 2 (rr_cons (re_lst ra_nil) (rr_cons re_str rr_nil)) ck.calm ck.nd)
 (rss_cons (rs_for ck.own ck.calm (ri_enum (ra_cons (re_split (re_var 0) re_str) ra_nil) X.b_enumerate) (rg_tup (rgs_cons (rg_name 3 ck.nd) (rgs_cons (rg_name 4 ck.nd) rgs_nil)) ck.calm)
 (rss_cons (rs_set 5 (re_bin op_addD (re_var 3) re_int) ck.nd)
 (rss_cons (rs_set 6 (re_split (re_var 4) re_str) ck.nd)
 (rss_cons (rs_if (RW.rt (rw_or (rt_cmp op_gtD (re_var 5) (re_clsCon 6 (v := .int 5) X.mg_Tower X.cv_Tower_MAX_BELLS.choose_spec.choose_spec.1 X.cv_Tower_MAX_BELLS.choose_spec.choose_spec.2 (fun _ => .int _))) (rw_or (rt_not (rt_val (re_call (ok_is_name X) (ck.mono (by decide)) (ra_cons (re_ix (re_var 6) re_int) ra_nil)))) (rw_or1 (rt_cmp op_leD (re_ix (re_var 6) re_int) (re_var 2))))))
 (rss_one (rs_raise2 (k := 1) 5 (rz_ParseError X) (ck.mono (by decide)) (ra_cons (re_var 5) (ra_cons re_int ra_nil))))
 rss_nil)
 (rss_cons (rs_if (RW.rt (rw_or (rt_cmp op_ltD (re_callB call_lenF X.b_len (ro_cons (re_var 6) ro_nil)) re_int) (rw_or1 (rt_not (rt_val (re_call (ok_is_period X) (ck.mono (by decide)) (ra_cons (re_ix (re_var 6) re_int) ra_nil)))))))
 (rss_one (rs_raise2 (k := 1) 5 (rz_ParseError X) (ck.mono (by decide)) (ra_cons (re_var 5) (ra_cons re_int ra_nil))))
 rss_nil)
 (rss_cons (rs_if (rt_cmp op_gtD (re_callB call_lenF X.b_len (ro_cons (re_var 6) ro_nil)) re_int)
 (rss_one (rs_raise2 (k := 1) 5 (rz_ParseError X) (ck.mono (by decide)) (ra_cons (re_var 5) (ra_cons re_int ra_nil))))
 rss_nil)
 (rss_cons (rs_set 2 (re_ix (re_var 6) re_int) ck.nd)
 (rss_one (rs_expr (re_append (re_var 1) (ra_cons (re_tup (ra_cons (re_ix (re_var 6) re_int) (ra_cons (re_callTy call_intSF X.b_int (ro_cons (re_ix (re_var 6) re_int) ro_nil)) ra_nil))) ra_nil)))))))))))
 (rss_one (rs_ret (re_make 6 (mk_Tower X) (ck.mono (by decide)) (ra_cons (re_callTy call_tupleF X.b_tuple (ro_cons (re_var 1) ro_nil)) ra_nil)))))))
theorem ok_read_tower (X : Txt K mg cm base) : DefP P w K mg base cm 7 "read_tower" ["text"] F_read_tower := by
  obtain ⟨f, fd, h1, h2, h3, Fu⟩ := X.f_read_tower
  exact ⟨f, fd, h1, h2, h3, (def_pure Fu sc_read_tower fun cdv A outer s H E ck => b_read_tower X ck)⟩
theorem b_Tower_names (X : Txt K mg cm base) {f : Addr} {cdv : Value} {A : Around} {outer : List Env} {s : Shared} {H : Hp} {E : XK} (ck : Cok (dtx P w K mg base cm ["self"] "Tower.names" (defScope s_Tower_names) f cdv A outer s H E none) 1) : RSs (dtx P w K mg base cm ["self"] "Tower.names" (defScope s_Tower_names) f cdv A outer s H E none) (defBody s_Tower_names) c_Tower_names :=
 (rss_one (rs_ret (re_fld 6 X.cl_Tower X.na_Tower_own_names (re_var 0))))
theorem pr_Tower_names (X : Txt K mg cm base) : DefPr P w K mg base cm 2 6 "names" F_Tower_names := by
  obtain ⟨p, f, fd, h1, h2, Fu⟩ := X.p_Tower_names
  exact ⟨p, f, fd, X.cl_Tower, h1, h2, (def_pure Fu sc_Tower_names fun cdv A outer s H E ck => b_Tower_names X ck)⟩
theorem b_read_heard (X : Txt K mg cm base) {f : Addr} {cdv : Value} {A : Around} {outer : List Env} {s : Shared} {H : Hp} {E : XK} (ck : Cok (dtx P w K mg base cm ["tower", "text", "lines", "words", "chimes", "index", "word"] "read_heard" (defScope s_read_heard) f cdv A outer s H E none) 5) : RSs (dtx P w K mg base cm ["tower", "text", "lines", "words", "chimes", "index", "word"] "read_heard" (defScope s_read_heard) f cdv A outer s H E none) (defBody s_read_heard) c_read_heard :=
 (rss_cons (rs_expr (re_call (ok_need_text X) (ck.mono (by decide)) (ra_cons (re_var 1) ra_nil)))
 (rss_cons (rs_set 2 (re_split (re_var 1) re_str) ck.nd)
 (rss_cons (rs_set 3 (re_split (re_ix (re_var 2) re_int) re_str) ck.nd)
 (rss_cons (rs_if (rt_cmp (op_eqDD ck.room) (re_ix (re_var 3) re_int) re_str)
 (rss_cons (rs_if (rt_cmp op_gtD (re_callB call_lenF X.b_len (ro_cons (re_var 3) ro_nil)) re_int)
 (rss_one (rs_raise2 (k := 1) 5 (rz_ParseError X) (ck.mono (by decide)) (ra_cons re_int (ra_cons re_int ra_nil))))
 rss_nil)
 (rss_one (rs_set 4 (re_tup ra_nil) ck.nd)))
 (rss_cons (rs_for ck.own ck.calm (ri_enum (ra_cons (re_var 3) ra_nil) X.b_enumerate) (rg_tup (rgs_cons (rg_name 5 ck.nd) (rgs_cons (rg_name 6 ck.nd) rgs_nil)) ck.calm)
 (rss_one (rs_if (RW.rt (rw_or (rt_cmp op_geD (re_var 5) (re_insCon 6 X.cl_Tower X.co_Tower_MAX_HEARD.choose_spec (fun _ => .int _) (re_var 0))) (rw_or1 (rt_not (rt_val (re_call (ok_is_chime X) (ck.mono (by decide)) (ra_cons (re_prop 6 (pr_Tower_names X) (ck.mono (by decide)) (re_var 0)) (ra_cons (re_var 6) ra_nil))))))))
 (rss_one (rs_raise2 (k := 1) 5 (rz_ParseError X) (ck.mono (by decide)) (ra_cons re_int (ra_cons (re_bin op_addD (re_var 5) re_int) ra_nil))))
 rss_nil)))
 (rss_one (rs_set 4 (re_callTy call_tupleF X.b_tuple (ro_cons (re_var 3) ro_nil)) ck.nd))))
 (rss_cons (rs_if (rt_cmp op_gtD (re_callB call_lenF X.b_len (ro_cons (re_var 2) ro_nil)) re_int)
 (rss_one (rs_raise2 (k := 1) 5 (rz_ParseError X) (ck.mono (by decide)) (ra_cons re_int (ra_cons re_int ra_nil))))
 rss_nil)
 (rss_one (rs_ret (re_var 4))))))))
theorem ok_read_heard (X : Txt K mg cm base) : DefP P w K mg base cm 6 "read_heard" ["tower", "text"] F_read_heard := by
  obtain ⟨f, fd, h1, h2, h3, Fu⟩ := X.f_read_heard
  exact ⟨f, fd, h1, h2, h3, (def_pure Fu sc_read_heard fun cdv A outer s H E ck => b_read_heard X ck)⟩
theorem b_law_sets (X : Txt K mg cm base) {f : Addr} {cdv : Value} {A : Around} {outer : List Env} {s : Shared} {H : Hp} {E : XK} (ck : Cok (dtx P w K mg base cm ["_law_bells_here", "_law_found", "_law_name", "_law_period", "_law_chime"] "_law_sets" (defScope s_law_sets) f cdv A outer s H E none) 1) : RSs (dtx P w K mg base cm ["_law_bells_here", "_law_found", "_law_name", "_law_period", "_law_chime"] "_law_sets" (defScope s_law_sets) f cdv A outer s H E none) (defBody s_law_sets) c_law_sets :=
 (rss_cons (rs_set 1 (re_lst (ra_cons re_str ra_nil)) ck.nd)
 (rss_cons (rs_for ck.own ck.calm (ri_seq (re_var 0)) (rg_tup (rgs_cons (rg_name 2 ck.nd) (rgs_cons (rg_name 3 ck.nd) rgs_nil)) ck.calm)
 (rss_one (rs_set 1 (re_bin op_addD (re_var 1) (re_lc [("_law_chime", 4)] ck (ri_seq (re_var 1)) (fun s H C cl fp => (rgw_name 4 (ck.blk _ _ _ _ _).nd)) (fun s H C cl fp => rts_nil) (fun s H C cl fp => (re_bin op_addD (re_var 4) (re_var 2))) (ok := by show blkC ["_law_bells_here", "_law_found", "_law_name", "_law_period", "_law_chime"] (defScope s_law_sets) _ [("_law_chime", 4)] = true; decide +kernel))) ck.nd)))
 (rss_one (rs_ret (re_callB (call_sortedF ck) X.b_sorted (ro_cons (re_sli (re_var 1) (roS re_int) roN) ro_nil))))))
theorem ok_law_sets (X : Txt K mg cm base) : DefP P w K mg base cm 2 "_law_sets" ["_law_bells_here"] F_law_sets := by
  obtain ⟨f, fd, h1, h2, h3, Fu⟩ := X.f_law_sets
  exact ⟨f, fd, h1, h2, h3, (def_pure Fu sc_law_sets fun cdv A outer s H E ck => b_law_sets X ck)⟩
theorem b_law_heard_read (X : Txt K mg cm base) {f : Addr} {cdv : Value} {A : Around} {outer : List Env} {s : Shared} {H : Hp} {E : XK} (ck : Cok (dtx P w K mg base cm ["_law_bells_here", "_law_page", "_law_lines", "_law_sets_here", "_law_words", "_law_k", "_law_word"] "_law_heard_read" (defScope s_law_heard_read) f cdv A outer s H E none) 2) : RSs (dtx P w K mg base cm ["_law_bells_here", "_law_page", "_law_lines", "_law_sets_here", "_law_words", "_law_k", "_law_word"] "_law_heard_read" (defScope s_law_heard_read) f cdv A outer s H E none) (defBody s_law_heard_read) c_law_heard_read :=
 (rss_cons (rs_par2 2 3 (rr_cons (re_split (re_var 1) re_str) (rr_cons (re_call (ok_law_sets X) (ck.mono (by decide)) (ra_cons (re_var 0) ra_nil)) rr_nil)) ck.calm ck.nd)
 (rss_cons (rs_set 4 (re_split (re_ix (re_var 2) re_int) re_str) ck.nd)
 (rss_cons (rs_if (RW.rt (rw_and (rt_cmp (op_eqDD ck.room) (re_ix (re_var 4) re_int) re_str) (rw_and1 (rt_cmp op_gtD (re_callB call_lenF X.b_len (ro_cons (re_var 4) ro_nil)) re_int))))
 (rss_one (rs_ret (re_tup (ra_cons re_int (ra_cons re_int ra_nil)))))
 rss_nil)
 (rss_cons (rs_for ck.own ck.calm (ri_enum (ra_cons (re_ifE (rt_cmp (op_neDD ck.room) (re_ix (re_var 4) re_int) re_str) (re_var 4) (re_lst ra_nil)) ra_nil) X.b_enumerate) (rg_tup (rgs_cons (rg_name 5 ck.nd) (rgs_cons (rg_name 6 ck.nd) rgs_nil)) ck.calm)
 (rss_one (rs_if (RW.rt (rw_or (rt_cmp op_gtD (re_var 5) re_int) (rw_or1 (rt_cmp (op_notInDD ck.room) (re_var 6) (re_var 3)))))
 (rss_one (rs_ret (re_tup (ra_cons re_int (ra_cons (re_bin op_addD (re_var 5) re_int) ra_nil)))))
 rss_nil)))
 (rss_cons (rs_if (rt_cmp op_gtD (re_callB call_lenF X.b_len (ro_cons (re_var 2) ro_nil)) re_int)
 (rss_one (rs_ret (re_tup (ra_cons re_int (ra_cons re_int ra_nil)))))
 rss_nil)
 (rss_one (rs_ret (re_lst (ra_cons (re_ifE (rt_cmp (op_neDD ck.room) (re_ix (re_var 4) re_int) re_str) (re_callTy call_tupleF X.b_tuple (ro_cons (re_var 4) ro_nil)) (re_tup ra_nil)) ra_nil)))))))))
theorem ok_law_heard_read (X : Txt K mg cm base) : DefP P w K mg base cm 3 "_law_heard_read" ["_law_bells_here", "_law_page"] F_law_heard_read := by
  obtain ⟨f, fd, h1, h2, h3, Fu⟩ := X.f_law_heard_read
  exact ⟨f, fd, h1, h2, h3, (def_pure Fu sc_law_heard_read fun cdv A outer s H E ck => b_law_heard_read X ck)⟩
theorem b_law (X : Txt K mg cm base) {cc PP : Addr} (hmt : (PP, ("law" : Str) ++ ".<locals>." ++ "<lambda>") ∈ cm.tabs) (hut : ∀ p ∈ cm.tabs, p.1 = PP → p.2 = ("law" : Str) ++ ".<locals>." ++ "<lambda>") (hcs : (cc, PP) ∈ cm.codes) {f : Addr} {A : Around} {outer : List Env} {s : Shared} {H : Hp} {E : XK} (ck : Cok (dtx P w K mg base cm ["_law_script", "_law_k", "_law_source_here", "_law_bells_here", "_law_tower", "_law_some", "_law_turn", "_law_page", "_law_chimes_page", "_law_again", "_law_told", "_law_due"] "law" (defScope s_law) f (.ref cc) A outer s H E none) 9) : RSs (dtx P w K mg base cm ["_law_script", "_law_k", "_law_source_here", "_law_bells_here", "_law_tower", "_law_some", "_law_turn", "_law_page", "_law_chimes_page", "_law_again", "_law_told", "_law_due"] "law" (defScope s_law) f (.ref cc) A outer s H E none) (defBody s_law) c_law :=
 (rss_cons (rs_for ck.own ck.calm (ri_range1 (ra_cons (re_callB (call_maxF ck.calm) X.b_max (ro_cons re_int (ro_cons (re_callB (call_minF ck.calm) X.b_min (ro_cons re_int (ro_cons (re_callB call_lenF X.b_len (ro_cons (re_var 0) ro_nil)) ro_nil))) ro_nil))) ra_nil) X.b_range) (rg_name 1 ck.nd)
 (rss_cons (rs_set 2 (re_call (ok_law_source X) (ck.mono (by decide)) (ra_cons (re_var 0) (ra_cons (re_var 1) ra_nil))) ck.nd)
 (rss_one (rs_for ck.own ck.calm (ri_seq (re_tup (ra_cons (re_fg (re_callM (ok_law_bells X) (ck.mono (by decide)) (re_var 2) (ra_cons re_int ra_nil))) (ra_cons (re_fg (re_callM (ok_law_great_bells X) (ck.mono (by decide)) (re_var 2) ra_nil)) ra_nil)))) (rg_name 3 ck.nd)
 (rss_cons (rs_parG (rr_cons (re_make 6 (mk_Tower X) (ck.mono (by decide)) (ra_cons (re_var 3) ra_nil)) (rr_cons (re_call (ok_law_chimes X) (ck.mono (by decide)) (ra_cons (re_var 3) (ra_cons (re_callM (ok_law_row X) (ck.mono (by decide)) (re_var 2) (ra_cons (re_var 3) ra_nil)) (ra_cons (re_callM (ok_law_next X) (ck.mono (by decide)) (re_var 2) (ra_cons re_int ra_nil)) ra_nil)))) rr_nil)) (nm_cons 4 (nm_cons 5 nm_nil ck.nd) ck.nd) ck.calm)
 (rss_one (rs_for ck.own ck.calm (ri_range1 (ra_cons re_int ra_nil) X.b_range) (rg_name 6 ck.nd)
 (rss_cons (rs_parG (rr_cons (re_call (ok_tower_text X) (ck.mono (by decide)) (ra_cons (re_var 4) ra_nil)) (rr_cons (re_call (ok_heard_text X) (ck.mono (by decide)) (ra_cons (re_var 4) (ra_cons (re_var 5) ra_nil))) rr_nil)) (nm_cons 7 (nm_cons 8 nm_nil ck.nd) ck.nd) ck.calm)
 (rss_cons (rs_for ck.own ck.calm (ri_range1 (ra_cons (re_bin op_divD (re_bin op_addD (re_var 6) re_int) re_int) ra_nil) X.b_range) (rg_name 9 ck.nd)
 (rss_cons (rs_set 7 (re_callM (ok_law_bent_page X) (ck.mono (by decide)) (re_var 2) (ra_cons (re_var 7) ra_nil)) ck.nd)
 (rss_one (rs_set 8 (re_callM (ok_law_bent_page X) (ck.mono (by decide)) (re_var 2) (ra_cons (re_var 8) ra_nil)) ck.nd))))
 (rss_cons (rs_par2 10 11 (rr_cons (re_lam (n := 8) (kb := 7) (okl_law_read_told X) (ck.mono (by decide)) (by decide) (by decide) (X.tb _ hcs) hmt hut (fun A outer s H E f c ckl => (re_call (ok_read_tower X) (ckl.mono (by decide)) (ra_cons (re_var 7) ra_nil))) (L := by show LamX.lamSB (defScope s_law) _ = true; decide +kernel)) (rr_cons (re_call (ok_law_tower_read X) (ck.mono (by decide)) (ra_cons (re_var 7) ra_nil)) rr_nil)) ck.calm ck.nd)
 (rss_cons (rs_if (rt_cmp (op_neDD ck.room) (re_callB (call_reprF ck) X.b_repr (ro_cons (re_ifE (rt_val (re_callB (call_isiO (isi_X X)) X.b_isinstance (ro_cons (re_var 10) (ro_cons (re_ty X.b_tuple) ro_nil)))) (re_var 10) (re_lst (ra_cons (re_prop 6 (pr_Tower_bells X) (ck.mono (by decide)) (re_ix (re_var 10) re_int)) ra_nil))) ro_nil)) (re_callB (call_reprF ck) X.b_repr (ro_cons (re_var 11) ro_nil)))
 (rss_one (rs_ret re_bl))
 rss_nil)
 (rss_cons (rs_set 10 (re_lam (n := 7) (kb := 6) (okl_law_read_told X) (ck.mono (by decide)) (by decide) (by decide) (X.tb _ hcs) hmt hut (fun A outer s H E f c ckl => (re_call (ok_read_heard X) (ckl.mono (by decide)) (ra_cons (re_var 4) (ra_cons (re_var 8) ra_nil)))) (L := by show LamX.lamSB (defScope s_law) _ = true; decide +kernel)) ck.nd)
 (rss_one (rs_if (rt_cmp (op_neDD ck.room) (re_callB (call_reprF ck) X.b_repr (ro_cons (re_var 10) ro_nil)) (re_callB (call_reprF ck) X.b_repr (ro_cons (re_call (ok_law_heard_read X) (ck.mono (by decide)) (ra_cons (re_var 3) (ra_cons (re_var 8) ra_nil))) ro_nil)))
 (rss_one (rs_ret re_bl))
 rss_nil))))))))))))))
 (rss_one (rs_ret re_bl)))
end
end G
namespace G
open PySem PySem.Spec PyProof.Rows L2 DL
theorem all_mkF {P : Program} {w : World} {K : Kf} {h : Heap} {mg : Str → Option Value} {fa : Addr} (X : K.In h) (G : h.Ns mainGlobals mg) (hfa : mg "law" = some (.ref fa)) (S : SaysF fnL exB tbL h K) :
    ∃ (fd : FuncData) (cm : CM), TabTop K h cm.codes ∧ cm.tabs.map (·.1) = cm.codes.map (·.2) ∧ (∀ (s : Shared) (u : Value), BindsTo s fd ⟨[u], []⟩ [("_law_script", u)]) ∧ ∀ base : Heap, K.In base → base.Ns mainGlobals mg → (∀ p ∈ cm.codes, LamX.TabB base mg p.1 p.2) → FnG P w K mg base 10 fa fd ["_law_script"] (spD K cm 1 F_law) := by
  have R := S.ex
  obtain ⟨R0, RR0⟩ := of_and R
  clear R
  obtain ⟨Z, R0_0⟩ := of_and R0
  clear R0
  have z_range : PySem.W.nsIn K mainGlobals "range" = some none := of_dec Z
  clear Z
  obtain ⟨Z, R0_1⟩ := of_and R0_0
  clear R0_0
  have z_max : PySem.W.nsIn K mainGlobals "max" = some none := of_dec Z
  clear Z
  obtain ⟨Z, R0_2⟩ := of_and R0_1
  clear R0_1
  have z_min : PySem.W.nsIn K mainGlobals "min" = some none := of_dec Z
  clear Z
  obtain ⟨Z, R0_3⟩ := of_and R0_2
  clear R0_2
  have z_len : PySem.W.nsIn K mainGlobals "len" = some none := of_dec Z
  clear Z
  obtain ⟨Z, R0_4⟩ := of_and R0_3
  clear R0_3
  have a_law_source : PySem.W.nsIn K mainGlobals "_law_source" = some (some (.ref (He.ga K "_law_source"))) := of_dec Z
  clear Z
  obtain ⟨Z, R0_5⟩ := of_and R0_4
  clear R0_4
  have z_sorted : PySem.W.nsIn K mainGlobals "sorted" = some none := of_dec Z
  clear Z
  obtain ⟨Z, R0_6⟩ := of_and R0_5
  clear R0_5
  have z_list : PySem.W.nsIn K mainGlobals "list" = some none := of_dec Z
  clear Z
  obtain ⟨Z, R0_7⟩ := of_and R0_6
  clear R0_6
  have a_law_next : PySem.W.nsIn K mainGlobals "_law_next" = some (some (.ref (He.ga K "_law_next"))) := of_dec Z
  clear Z
  obtain ⟨Z, R0_8⟩ := of_and R0_7
  clear R0_7
  have a_law_mixed : PySem.W.nsIn K mainGlobals "_law_mixed" = some (some (.ref (He.ga K "_law_mixed"))) := of_dec Z
  clear Z
  obtain ⟨Z, R0_9⟩ := of_and R0_8
  clear R0_8
  have z_tuple : PySem.W.nsIn K mainGlobals "tuple" = some none := of_dec Z
  clear Z
  obtain ⟨Z, R0_10⟩ := of_and R0_9
  clear R0_9
  have a_law_great_bells : PySem.W.nsIn K mainGlobals "_law_great_bells" = some (some (.ref (He.ga K "_law_great_bells"))) := of_dec Z
  clear Z
  obtain ⟨Z, R0_11⟩ := of_and R0_10
  clear R0_10
  have a_law_bells : PySem.W.nsIn K mainGlobals "_law_bells" = some (some (.ref (He.ga K "_law_bells"))) := of_dec Z
  clear Z
  obtain ⟨Z, R0_12⟩ := of_and R0_11
  clear R0_11
  have z_zip : PySem.W.nsIn K mainGlobals "zip" = some none := of_dec Z
  clear Z
  obtain ⟨Z, R0_13⟩ := of_and R0_12
  clear R0_12
  have a_law_at : PySem.W.nsIn K mainGlobals "_law_at" = some (some (.ref (He.ga K "_law_at"))) := of_dec Z
  clear Z
  obtain ⟨Z, R0_14⟩ := of_and R0_13
  clear R0_13
  have a_law_timed : PySem.W.nsIn K mainGlobals "_law_timed" = some (some (.ref (He.ga K "_law_timed"))) := of_dec Z
  clear Z
  obtain ⟨Z, R0_15⟩ := of_and R0_14
  clear R0_14
  have a_law_chimes : PySem.W.nsIn K mainGlobals "_law_chimes" = some (some (.ref (He.ga K "_law_chimes"))) := of_dec Z
  clear Z
  obtain ⟨Z, R0_16⟩ := of_and R0_15
  clear R0_15
  have a_law_row : PySem.W.nsIn K mainGlobals "_law_row" = some (some (.ref (He.ga K "_law_row"))) := of_dec Z
  clear Z
  obtain ⟨Z, R0_17⟩ := of_and R0_16
  clear R0_16
  have z_isinstance : PySem.W.nsIn K mainGlobals "isinstance" = some none := of_dec Z
  clear Z
  obtain ⟨Z, R0_18⟩ := of_and R0_17
  clear R0_17
  have aC_BellError : PySem.W.nsIn K mainGlobals "BellError" = some (some (.ref (He.ga K "BellError"))) := of_dec Z
  clear Z
  obtain ⟨Z, R0_19⟩ := of_and R0_18
  clear R0_18
  have xg_BellError : PySem.W.findIn K (.ref (He.ga K "BellError")) "__getattribute__" = some (some (.builtin "BaseException.__getattribute__")) := of_dec Z
  clear Z
  obtain ⟨Z, R0_20⟩ := of_and R0_19
  clear R0_19
  have xk_BellError : PySem.W.findIn K (.ref (He.ga K "BellError")) "__getattr__" = some none := of_dec Z
  clear Z
  obtain ⟨Z, R0_21⟩ := of_and R0_20
  clear R0_20
  have be_BellError : PySem.W.subIn K (.ref (He.ga K "BellError")) (.type "BaseException") = some true := of_dec Z
  clear Z
  obtain ⟨Z, R0_22⟩ := of_and R0_21
  clear R0_21
  have hd_BellError : PySem.W.hasDictIn K (He.ga K "BellError") = true := Z
  clear Z
  obtain ⟨Z, R0_23⟩ := of_and R0_22
  clear R0_22
  have kc2_BellError : PySem.W.findIn K (.ref (He.ga K "BellError")) "__class__" = some (some (.builtin "object.__class__")) := of_dec Z
  clear Z
  obtain ⟨Z, R0_24⟩ := of_and R0_23
  clear R0_23
  have gs : PySem.W.specialIn K (.builtin "object.__class__") "__get__" = some (some (.builtin "getset_descriptor.__get__")) := of_dec Z
  clear Z
  obtain ⟨Z, R0_25⟩ := of_and R0_24
  clear R0_24
  have gt : PySem.W.takesIn K (.builtin "object.__class__") = some true := of_dec Z
  clear Z
  obtain ⟨Z, R0_26⟩ := of_and R0_25
  clear R0_25
  have mo_BellError : PySem.W.mroIn K (He.ga K "BellError") (.type "object") = some true := of_dec Z
  clear Z
  obtain ⟨Z, R0_27⟩ := of_and R0_26
  clear R0_26
  have aC_InvalidTower : PySem.W.nsIn K mainGlobals "InvalidTower" = some (some (.ref (He.ga K "InvalidTower"))) := of_dec Z
  clear Z
  obtain ⟨Z, R0_28⟩ := of_and R0_27
  clear R0_27
  have xg_InvalidTower : PySem.W.findIn K (.ref (He.ga K "InvalidTower")) "__getattribute__" = some (some (.builtin "BaseException.__getattribute__")) := of_dec Z
  clear Z
  obtain ⟨Z, R0_29⟩ := of_and R0_28
  clear R0_28
  have xk_InvalidTower : PySem.W.findIn K (.ref (He.ga K "InvalidTower")) "__getattr__" = some none := of_dec Z
  clear Z
  obtain ⟨Z, R0_30⟩ := of_and R0_29
  clear R0_29
  have be_InvalidTower : PySem.W.subIn K (.ref (He.ga K "InvalidTower")) (.type "BaseException") = some true := of_dec Z
  clear Z
  obtain ⟨Z, R0_31⟩ := of_and R0_30
  clear R0_30
  have hd_InvalidTower : PySem.W.hasDictIn K (He.ga K "InvalidTower") = true := Z
  clear Z
  clear R0_31
  obtain ⟨R1, RR1⟩ := of_and RR0
  clear RR0
  obtain ⟨Z, R1_0⟩ := of_and R1
  clear R1
  have kc2_InvalidTower : PySem.W.findIn K (.ref (He.ga K "InvalidTower")) "__class__" = some (some (.builtin "object.__class__")) := of_dec Z
  clear Z
  obtain ⟨Z, R1_1⟩ := of_and R1_0
  clear R1_0
  have mo_InvalidTower : PySem.W.mroIn K (He.ga K "InvalidTower") (.type "object") = some true := of_dec Z
  clear Z
  obtain ⟨Z, R1_2⟩ := of_and R1_1
  clear R1_1
  have aC_InvalidName : PySem.W.nsIn K mainGlobals "InvalidName" = some (some (.ref (He.ga K "InvalidName"))) := of_dec Z
  clear Z
  obtain ⟨Z, R1_3⟩ := of_and R1_2
  clear R1_2
  have xg_InvalidName : PySem.W.findIn K (.ref (He.ga K "InvalidName")) "__getattribute__" = some (some (.builtin "BaseException.__getattribute__")) := of_dec Z
  clear Z
  obtain ⟨Z, R1_4⟩ := of_and R1_3
  clear R1_3
  have xk_InvalidName : PySem.W.findIn K (.ref (He.ga K "InvalidName")) "__getattr__" = some none := of_dec Z
  clear Z
  obtain ⟨Z, R1_5⟩ := of_and R1_4
  clear R1_4
  have be_InvalidName : PySem.W.subIn K (.ref (He.ga K "InvalidName")) (.type "BaseException") = some true := of_dec Z
  clear Z
  obtain ⟨Z, R1_6⟩ := of_and R1_5
  clear R1_5
  have hd_InvalidName : PySem.W.hasDictIn K (He.ga K "InvalidName") = true := Z
  clear Z
  obtain ⟨Z, R1_7⟩ := of_and R1_6
  clear R1_6
  have kc2_InvalidName : PySem.W.findIn K (.ref (He.ga K "InvalidName")) "__class__" = some (some (.builtin "object.__class__")) := of_dec Z
  clear Z
  obtain ⟨Z, R1_8⟩ := of_and R1_7
  clear R1_7
  have mo_InvalidName : PySem.W.mroIn K (He.ga K "InvalidName") (.type "object") = some true := of_dec Z
  clear Z
  obtain ⟨Z, R1_9⟩ := of_and R1_8
  clear R1_8
  have aC_InvalidHeard : PySem.W.nsIn K mainGlobals "InvalidHeard" = some (some (.ref (He.ga K "InvalidHeard"))) := of_dec Z
  clear Z
  obtain ⟨Z, R1_10⟩ := of_and R1_9
  clear R1_9
  have xg_InvalidHeard : PySem.W.findIn K (.ref (He.ga K "InvalidHeard")) "__getattribute__" = some (some (.builtin "BaseException.__getattribute__")) := of_dec Z
  clear Z
  obtain ⟨Z, R1_11⟩ := of_and R1_10
  clear R1_10
  have xk_InvalidHeard : PySem.W.findIn K (.ref (He.ga K "InvalidHeard")) "__getattr__" = some none := of_dec Z
  clear Z
  obtain ⟨Z, R1_12⟩ := of_and R1_11
  clear R1_11
  have be_InvalidHeard : PySem.W.subIn K (.ref (He.ga K "InvalidHeard")) (.type "BaseException") = some true := of_dec Z
  clear Z
  obtain ⟨Z, R1_13⟩ := of_and R1_12
  clear R1_12
  have hd_InvalidHeard : PySem.W.hasDictIn K (He.ga K "InvalidHeard") = true := Z
  clear Z
  obtain ⟨Z, R1_14⟩ := of_and R1_13
  clear R1_13
  have kc2_InvalidHeard : PySem.W.findIn K (.ref (He.ga K "InvalidHeard")) "__class__" = some (some (.builtin "object.__class__")) := of_dec Z
  clear Z
  obtain ⟨Z, R1_15⟩ := of_and R1_14
  clear R1_14
  have mo_InvalidHeard : PySem.W.mroIn K (He.ga K "InvalidHeard") (.type "object") = some true := of_dec Z
  clear Z
  obtain ⟨Z, R1_16⟩ := of_and R1_15
  clear R1_15
  have aC_InvalidNumber : PySem.W.nsIn K mainGlobals "InvalidNumber" = some (some (.ref (He.ga K "InvalidNumber"))) := of_dec Z
  clear Z
  obtain ⟨Z, R1_17⟩ := of_and R1_16
  clear R1_16
  have xg_InvalidNumber : PySem.W.findIn K (.ref (He.ga K "InvalidNumber")) "__getattribute__" = some (some (.builtin "BaseException.__getattribute__")) := of_dec Z
  clear Z
  obtain ⟨Z, R1_18⟩ := of_and R1_17
  clear R1_17
  have xk_InvalidNumber : PySem.W.findIn K (.ref (He.ga K "InvalidNumber")) "__getattr__" = some none := of_dec Z
  clear Z
  obtain ⟨Z, R1_19⟩ := of_and R1_18
  clear R1_18
  have be_InvalidNumber : PySem.W.subIn K (.ref (He.ga K "InvalidNumber")) (.type "BaseException") = some true := of_dec Z
  clear Z
  obtain ⟨Z, R1_20⟩ := of_and R1_19
  clear R1_19
  have hd_InvalidNumber : PySem.W.hasDictIn K (He.ga K "InvalidNumber") = true := Z
  clear Z
  obtain ⟨Z, R1_21⟩ := of_and R1_20
  clear R1_20
  have kc2_InvalidNumber : PySem.W.findIn K (.ref (He.ga K "InvalidNumber")) "__class__" = some (some (.builtin "object.__class__")) := of_dec Z
  clear Z
  obtain ⟨Z, R1_22⟩ := of_and R1_21
  clear R1_21
  have mo_InvalidNumber : PySem.W.mroIn K (He.ga K "InvalidNumber") (.type "object") = some true := of_dec Z
  clear Z
  obtain ⟨Z, R1_23⟩ := of_and R1_22
  clear R1_22
  have aC_ParseError : PySem.W.nsIn K mainGlobals "ParseError" = some (some (.ref (He.ga K "ParseError"))) := of_dec Z
  clear Z
  obtain ⟨Z, R1_24⟩ := of_and R1_23
  clear R1_23
  have xg_ParseError : PySem.W.findIn K (.ref (He.ga K "ParseError")) "__getattribute__" = some (some (.builtin "BaseException.__getattribute__")) := of_dec Z
  clear Z
  obtain ⟨Z, R1_25⟩ := of_and R1_24
  clear R1_24
  have xk_ParseError : PySem.W.findIn K (.ref (He.ga K "ParseError")) "__getattr__" = some none := of_dec Z
  clear Z
  obtain ⟨Z, R1_26⟩ := of_and R1_25
  clear R1_25
  have be_ParseError : PySem.W.subIn K (.ref (He.ga K "ParseError")) (.type "BaseException") = some true := of_dec Z
  clear Z
  obtain ⟨Z, R1_27⟩ := of_and R1_26
  clear R1_26
  have hd_ParseError : PySem.W.hasDictIn K (He.ga K "ParseError") = true := Z
  clear Z
  obtain ⟨Z, R1_28⟩ := of_and R1_27
  clear R1_27
  have kc2_ParseError : PySem.W.findIn K (.ref (He.ga K "ParseError")) "__class__" = some (some (.builtin "object.__class__")) := of_dec Z
  clear Z
  obtain ⟨Z, R1_29⟩ := of_and R1_28
  clear R1_28
  have mo_ParseError : PySem.W.mroIn K (He.ga K "ParseError") (.type "object") = some true := of_dec Z
  clear Z
  obtain ⟨Z, R1_30⟩ := of_and R1_29
  clear R1_29
  have aC_Tower : PySem.W.nsIn K mainGlobals "Tower" = some (some (.ref (He.ga K "Tower"))) := of_dec Z
  clear Z
  obtain ⟨Z, R1_31⟩ := of_and R1_30
  clear R1_30
  have pg_Tower : PySem.W.plainGet K (He.ga K "Tower") Str.empty = true := Z
  clear Z
  clear R1_31
  obtain ⟨R2, RR2⟩ := of_and RR1
  clear RR1
  obtain ⟨Z, R2_0⟩ := of_and R2
  clear R2
  have hd_Tower : PySem.W.hasDictIn K (He.ga K "Tower") = true := Z
  clear Z
  obtain ⟨Z, R2_1⟩ := of_and R2_0
  clear R2_0
  have po_Tower : PySem.W.plainOver K (He.ga K "Tower") = true := Z
  clear Z
  obtain ⟨Z, R2_2⟩ := of_and R2_1
  clear R2_1
  have sa_Tower : PySem.W.findIn K (.ref (He.ga K "Tower")) "__setattr__" = some (some (.builtin "object.__setattr__")) := of_dec Z
  clear Z
  obtain ⟨Z, R2_3⟩ := of_and R2_2
  clear R2_2
  have kc2_Tower : PySem.W.findIn K (.ref (He.ga K "Tower")) "__class__" = some (some (.builtin "object.__class__")) := of_dec Z
  clear Z
  obtain ⟨Z, R2_4⟩ := of_and R2_3
  clear R2_3
  have mo_Tower : PySem.W.mroIn K (He.ga K "Tower") (.type "object") = some true := of_dec Z
  clear Z
  obtain ⟨Z, R2_5⟩ := of_and R2_4
  clear R2_4
  have rd_Tower : PySem.W.readsIn K (He.ga K "Tower") (.type "type") = true := Z
  clear Z
  obtain ⟨Z, R2_6⟩ := of_and R2_5
  clear R2_5
  have ga_Tower : PySem.W.specialIn K (.ref (He.ga K "Tower")) "__getattribute__" = some (some (.builtin "type.__getattribute__")) := of_dec Z
  clear Z
  obtain ⟨Z, R2_7⟩ := of_and R2_6
  clear R2_6
  obtain ⟨t_Tower_MAX_BELLS_v, v_Tower_MAX_BELLS⟩ := cintB_ok Z
  clear Z
  obtain ⟨Z, R2_8⟩ := of_and R2_7
  clear R2_7
  have z_enumerate : PySem.W.nsIn K mainGlobals "enumerate" = some none := of_dec Z
  clear Z
  obtain ⟨Z, R2_9⟩ := of_and R2_8
  clear R2_8
  have z_str : PySem.W.nsIn K mainGlobals "str" = some none := of_dec Z
  clear Z
  obtain ⟨Z, R2_10⟩ := of_and R2_9
  clear R2_9
  obtain ⟨t_LETTERS, g_LETTERS⟩ := gstrB_ok Z
  clear Z
  obtain ⟨Z, R2_11⟩ := of_and R2_10
  clear R2_10
  have a_is_name : PySem.W.nsIn K mainGlobals "is_name" = some (some (.ref (He.ga K "is_name"))) := of_dec Z
  clear Z
  obtain ⟨Z, R2_12⟩ := of_and R2_11
  clear R2_11
  have z_int : PySem.W.nsIn K mainGlobals "int" = some none := of_dec Z
  clear Z
  obtain ⟨Z, R2_13⟩ := of_and R2_12
  clear R2_12
  have z_bool : PySem.W.nsIn K mainGlobals "bool" = some none := of_dec Z
  clear Z
  obtain ⟨Z, R2_14⟩ := of_and R2_13
  clear R2_13
  have a_is_integer : PySem.W.nsIn K mainGlobals "is_integer" = some (some (.ref (He.ga K "is_integer"))) := of_dec Z
  clear Z
  obtain ⟨Z, R2_15⟩ := of_and R2_14
  clear R2_14
  obtain ⟨t_Tower_MAX_PERIOD_v, v_Tower_MAX_PERIOD⟩ := cintB_ok Z
  clear Z
  obtain ⟨Z, R2_16⟩ := of_and R2_15
  clear R2_15
  have a_is_bell : PySem.W.nsIn K mainGlobals "is_bell" = some (some (.ref (He.ga K "is_bell"))) := of_dec Z
  clear Z
  obtain ⟨Z, R2_17⟩ := of_and R2_16
  clear R2_16
  have a_tower_faults : PySem.W.nsIn K mainGlobals "tower_faults" = some (some (.ref (He.ga K "tower_faults"))) := of_dec Z
  clear Z
  obtain ⟨Z, R2_18⟩ := of_and R2_17
  clear R2_17
  obtain ⟨nm_InvalidTower, q_InvalidTower, N_InvalidTower, bs_InvalidTower, su_InvalidTower, sn_InvalidTower, ab_InvalidTower, co_InvalidTower, dd_InvalidTower, m0_InvalidTower, m1_InvalidTower, m2_InvalidTower, m3_InvalidTower, m5_InvalidTower, x_InvalidTower⟩ := xclB_ok Z
  clear Z
  obtain ⟨Z, R2_19⟩ := of_and R2_18
  clear R2_18
  have sa_InvalidTower : PySem.W.findIn K (.ref (He.ga K "InvalidTower")) "__setattr__" = some (some (.builtin "object.__setattr__")) := of_dec Z
  clear Z
  obtain ⟨Z, R2_20⟩ := of_and R2_19
  clear R2_19
  have tc_InvalidTower : PySem.W.typeIn K (.ref (He.ga K "InvalidTower")) = some (.type "type") := of_dec Z
  clear Z
  obtain ⟨Z, R2_21⟩ := of_and R2_20
  clear R2_20
  have kc_InvalidTower : PySem.W.keepIn K (.ref (He.ga K "InvalidTower")) = true := Z
  clear Z
  obtain ⟨Z, R2_22⟩ := of_and R2_21
  clear R2_21
  have b_InvalidTower___init : PySem.W.findIn K (.ref (He.ga K "InvalidTower")) "__init__" = some (some (.ref (He.ma K (He.ga K "InvalidTower") "__init__"))) := of_dec Z
  clear Z
  obtain ⟨Z, R2_23⟩ := of_and R2_22
  clear R2_22
  have tf_InvalidTower___init : PySem.W.typeIn K (.ref (He.ma K (He.ga K "InvalidTower") "__init__")) = some (.type "function") := of_dec Z
  clear Z
  obtain ⟨Z, R2_24⟩ := of_and R2_23
  clear R2_23
  have n_InvalidTower_index : PySem.W.findIn K (.ref (He.ga K "InvalidTower")) "index" = some none := of_dec Z
  clear Z
  obtain ⟨Z, R2_25⟩ := of_and R2_24
  clear R2_24
  have n_Tower_own_bells : PySem.W.findIn K (.ref (He.ga K "Tower")) "own_bells" = some none := of_dec Z
  clear Z
  obtain ⟨Z, R2_26⟩ := of_and R2_25
  clear R2_25
  have n_Tower_own_names : PySem.W.findIn K (.ref (He.ga K "Tower")) "own_names" = some none := of_dec Z
  clear Z
  obtain ⟨Z, R2_27⟩ := of_and R2_26
  clear R2_26
  have n_Tower_own_periods : PySem.W.findIn K (.ref (He.ga K "Tower")) "own_periods" = some none := of_dec Z
  clear Z
  obtain ⟨Z, R2_28⟩ := of_and R2_27
  clear R2_27
  have a_common_multiple : PySem.W.nsIn K mainGlobals "common_multiple" = some (some (.ref (He.ga K "common_multiple"))) := of_dec Z
  clear Z
  obtain ⟨Z, R2_29⟩ := of_and R2_28
  clear R2_28
  have n_Tower_own_round : PySem.W.findIn K (.ref (He.ga K "Tower")) "own_round" = some none := of_dec Z
  clear Z
  obtain ⟨Z, R2_30⟩ := of_and R2_29
  clear R2_29
  have b_Tower___init : PySem.W.findIn K (.ref (He.ga K "Tower")) "__init__" = some (some (.ref (He.ma K (He.ga K "Tower") "__init__"))) := of_dec Z
  clear Z
  obtain ⟨Z, R2_31⟩ := of_and R2_30
  clear R2_30
  have mk_Tower : PySem.W.makesIn K (He.ga K "Tower") = true := Z
  clear Z
  clear R2_31
  obtain ⟨R3, RR3⟩ := of_and RR2
  clear RR2
  obtain ⟨Z, R3_0⟩ := of_and R3
  clear R3
  have kc_Tower : PySem.W.keepIn K (.ref (He.ga K "Tower")) = true := Z
  clear Z
  obtain ⟨Z, R3_1⟩ := of_and R3_0
  clear R3_0
  have i_Tower___init : PySem.W.isFn K (.ref (He.ma K (He.ga K "Tower") "__init__")) = true := Z
  clear Z
  obtain ⟨Z, R3_2⟩ := of_and R3_1
  clear R3_1
  obtain ⟨t_Tower_MAX_HEARD_w, w_Tower_MAX_HEARD⟩ := fintB_ok Z
  clear Z
  obtain ⟨Z, R3_3⟩ := of_and R3_2
  clear R3_2
  obtain ⟨nm_InvalidHeard, q_InvalidHeard, N_InvalidHeard, bs_InvalidHeard, su_InvalidHeard, sn_InvalidHeard, ab_InvalidHeard, co_InvalidHeard, dd_InvalidHeard, m0_InvalidHeard, m1_InvalidHeard, m2_InvalidHeard, m3_InvalidHeard, m5_InvalidHeard, x_InvalidHeard⟩ := xclB_ok Z
  clear Z
  obtain ⟨Z, R3_4⟩ := of_and R3_3
  clear R3_3
  have sa_InvalidHeard : PySem.W.findIn K (.ref (He.ga K "InvalidHeard")) "__setattr__" = some (some (.builtin "object.__setattr__")) := of_dec Z
  clear Z
  obtain ⟨Z, R3_5⟩ := of_and R3_4
  clear R3_4
  have tc_InvalidHeard : PySem.W.typeIn K (.ref (He.ga K "InvalidHeard")) = some (.type "type") := of_dec Z
  clear Z
  obtain ⟨Z, R3_6⟩ := of_and R3_5
  clear R3_5
  have kc_InvalidHeard : PySem.W.keepIn K (.ref (He.ga K "InvalidHeard")) = true := Z
  clear Z
  obtain ⟨Z, R3_7⟩ := of_and R3_6
  clear R3_6
  have b_InvalidHeard___init : PySem.W.findIn K (.ref (He.ga K "InvalidHeard")) "__init__" = some (some (.ref (He.ma K (He.ga K "InvalidHeard") "__init__"))) := of_dec Z
  clear Z
  obtain ⟨Z, R3_8⟩ := of_and R3_7
  clear R3_7
  have tf_InvalidHeard___init : PySem.W.typeIn K (.ref (He.ma K (He.ga K "InvalidHeard") "__init__")) = some (.type "function") := of_dec Z
  clear Z
  obtain ⟨Z, R3_9⟩ := of_and R3_8
  clear R3_8
  have n_InvalidHeard_index : PySem.W.findIn K (.ref (He.ga K "InvalidHeard")) "index" = some none := of_dec Z
  clear Z
  obtain ⟨Z, R3_10⟩ := of_and R3_9
  clear R3_9
  have a_is_chime : PySem.W.nsIn K mainGlobals "is_chime" = some (some (.ref (He.ga K "is_chime"))) := of_dec Z
  clear Z
  obtain ⟨Z, R3_11⟩ := of_and R3_10
  clear R3_10
  have b_Tower_check_heard : PySem.W.findIn K (.ref (He.ga K "Tower")) "check_heard" = some (some (.ref (He.ma K (He.ga K "Tower") "check_heard"))) := of_dec Z
  clear Z
  obtain ⟨Z, R3_12⟩ := of_and R3_11
  clear R3_11
  have i_Tower_check_heard : PySem.W.isFn K (.ref (He.ma K (He.ga K "Tower") "check_heard")) = true := Z
  clear Z
  obtain ⟨Z, R3_13⟩ := of_and R3_12
  clear R3_12
  have a_heard_text : PySem.W.nsIn K mainGlobals "heard_text" = some (some (.ref (He.ga K "heard_text"))) := of_dec Z
  clear Z
  obtain ⟨Z, R3_14⟩ := of_and R3_13
  clear R3_13
  have b_Tower_bells : PySem.W.findIn K (.ref (He.ga K "Tower")) "bells" = some (some (.ref (He.ma K (He.ga K "Tower") "bells"))) := of_dec Z
  clear Z
  obtain ⟨Z, R3_15⟩ := of_and R3_14
  clear R3_14
  have pge_Tower_bells : PySem.W.specialIn K (.ref (He.ma K (He.ga K "Tower") "bells")) "__get__" = some (some (.builtin "property.__get__")) := of_dec Z
  clear Z
  obtain ⟨Z, R3_16⟩ := of_and R3_15
  clear R3_15
  have pta_Tower_bells : PySem.W.takesIn K (.ref (He.ma K (He.ga K "Tower") "bells")) = some true := of_dec Z
  clear Z
  obtain ⟨Z, R3_17⟩ := of_and R3_16
  clear R3_16
  obtain ⟨r_Tower_bells, pre_Tower_bells⟩ := recB_ok Z
  clear Z
  obtain ⟨Z, R3_18⟩ := of_and R3_17
  clear R3_17
  have a_tower_text : PySem.W.nsIn K mainGlobals "tower_text" = some (some (.ref (He.ga K "tower_text"))) := of_dec Z
  clear Z
  obtain ⟨Z, R3_19⟩ := of_and R3_18
  clear R3_18
  have a_law_bent_page : PySem.W.nsIn K mainGlobals "_law_bent_page" = some (some (.ref (He.ga K "_law_bent_page"))) := of_dec Z
  clear Z
  obtain ⟨Z, R3_20⟩ := of_and R3_19
  clear R3_19
  have a_law_tower_read : PySem.W.nsIn K mainGlobals "_law_tower_read" = some (some (.ref (He.ga K "_law_tower_read"))) := of_dec Z
  clear Z
  obtain ⟨Z, R3_21⟩ := of_and R3_20
  clear R3_20
  have ic_ParseError : PySem.W.isClsIn K (He.ga K "ParseError") = true := Z
  clear Z
  obtain ⟨Z, R3_22⟩ := of_and R3_21
  clear R3_21
  have tc_ParseError : PySem.W.typeIn K (.ref (He.ga K "ParseError")) = some (.type "type") := of_dec Z
  clear Z
  obtain ⟨Z, R3_23⟩ := of_and R3_22
  clear R3_22
  have sb_BellError_ParseError : PySem.W.subIn K (.ref (He.ga K "BellError")) (.ref (He.ga K "ParseError")) = some false := of_dec Z
  clear Z
  obtain ⟨Z, R3_24⟩ := of_and R3_23
  clear R3_23
  have sb_InvalidTower_ParseError : PySem.W.subIn K (.ref (He.ga K "InvalidTower")) (.ref (He.ga K "ParseError")) = some false := of_dec Z
  clear Z
  obtain ⟨Z, R3_25⟩ := of_and R3_24
  clear R3_24
  have sb_InvalidName_ParseError : PySem.W.subIn K (.ref (He.ga K "InvalidName")) (.ref (He.ga K "ParseError")) = some false := of_dec Z
  clear Z
  obtain ⟨Z, R3_26⟩ := of_and R3_25
  clear R3_25
  have sb_InvalidHeard_ParseError : PySem.W.subIn K (.ref (He.ga K "InvalidHeard")) (.ref (He.ga K "ParseError")) = some false := of_dec Z
  clear Z
  obtain ⟨Z, R3_27⟩ := of_and R3_26
  clear R3_26
  have sb_InvalidNumber_ParseError : PySem.W.subIn K (.ref (He.ga K "InvalidNumber")) (.ref (He.ga K "ParseError")) = some false := of_dec Z
  clear Z
  obtain ⟨Z, R3_28⟩ := of_and R3_27
  clear R3_27
  have sb_ParseError_ParseError : PySem.W.subIn K (.ref (He.ga K "ParseError")) (.ref (He.ga K "ParseError")) = some true := of_dec Z
  clear Z
  obtain ⟨Z, R3_29⟩ := of_and R3_28
  clear R3_28
  have n_ParseError_word : PySem.W.findIn K (.ref (He.ga K "ParseError")) "word" = some none := of_dec Z
  clear Z
  obtain ⟨Z, R3_30⟩ := of_and R3_29
  clear R3_29
  have n_ParseError_line : PySem.W.findIn K (.ref (He.ga K "ParseError")) "line" = some none := of_dec Z
  clear Z
  obtain ⟨Z, R3_31⟩ := of_and R3_30
  clear R3_30
  have a_law_read_told : PySem.W.nsIn K mainGlobals "_law_read_told" = some (some (.ref (He.ga K "_law_read_told"))) := of_dec Z
  clear Z
  clear R3_31
  obtain ⟨R4, RR4⟩ := of_and RR3
  clear RR3
  obtain ⟨Z, R4_0⟩ := of_and R4
  clear R4
  obtain ⟨nm_ParseError, q_ParseError, N_ParseError, bs_ParseError, su_ParseError, sn_ParseError, ab_ParseError, co_ParseError, dd_ParseError, m0_ParseError, m1_ParseError, m2_ParseError, m3_ParseError, m5_ParseError, x_ParseError⟩ := xclB_ok Z
  clear Z
  obtain ⟨Z, R4_1⟩ := of_and R4_0
  clear R4_0
  have sa_ParseError : PySem.W.findIn K (.ref (He.ga K "ParseError")) "__setattr__" = some (some (.builtin "object.__setattr__")) := of_dec Z
  clear Z
  obtain ⟨Z, R4_2⟩ := of_and R4_1
  clear R4_1
  have kc_ParseError : PySem.W.keepIn K (.ref (He.ga K "ParseError")) = true := Z
  clear Z
  obtain ⟨Z, R4_3⟩ := of_and R4_2
  clear R4_2
  have b_ParseError___init : PySem.W.findIn K (.ref (He.ga K "ParseError")) "__init__" = some (some (.ref (He.ma K (He.ga K "ParseError") "__init__"))) := of_dec Z
  clear Z
  obtain ⟨Z, R4_4⟩ := of_and R4_3
  clear R4_3
  have tf_ParseError___init : PySem.W.typeIn K (.ref (He.ma K (He.ga K "ParseError") "__init__")) = some (.type "function") := of_dec Z
  clear Z
  obtain ⟨Z, R4_5⟩ := of_and R4_4
  clear R4_4
  have a_need_text : PySem.W.nsIn K mainGlobals "need_text" = some (some (.ref (He.ga K "need_text"))) := of_dec Z
  clear Z
  obtain ⟨Z, R4_6⟩ := of_and R4_5
  clear R4_5
  have a_is_period : PySem.W.nsIn K mainGlobals "is_period" = some (some (.ref (He.ga K "is_period"))) := of_dec Z
  clear Z
  obtain ⟨Z, R4_7⟩ := of_and R4_6
  clear R4_6
  have a_read_tower : PySem.W.nsIn K mainGlobals "read_tower" = some (some (.ref (He.ga K "read_tower"))) := of_dec Z
  clear Z
  obtain ⟨Z, R4_8⟩ := of_and R4_7
  clear R4_7
  have z_repr : PySem.W.nsIn K mainGlobals "repr" = some none := of_dec Z
  clear Z
  obtain ⟨Z, R4_9⟩ := of_and R4_8
  clear R4_8
  have b_Tower_names : PySem.W.findIn K (.ref (He.ga K "Tower")) "names" = some (some (.ref (He.ma K (He.ga K "Tower") "names"))) := of_dec Z
  clear Z
  obtain ⟨Z, R4_10⟩ := of_and R4_9
  clear R4_9
  have pge_Tower_names : PySem.W.specialIn K (.ref (He.ma K (He.ga K "Tower") "names")) "__get__" = some (some (.builtin "property.__get__")) := of_dec Z
  clear Z
  obtain ⟨Z, R4_11⟩ := of_and R4_10
  clear R4_10
  have pta_Tower_names : PySem.W.takesIn K (.ref (He.ma K (He.ga K "Tower") "names")) = some true := of_dec Z
  clear Z
  obtain ⟨Z, R4_12⟩ := of_and R4_11
  clear R4_11
  obtain ⟨r_Tower_names, pre_Tower_names⟩ := recB_ok Z
  clear Z
  obtain ⟨Z, R4_13⟩ := of_and R4_12
  clear R4_12
  have a_read_heard : PySem.W.nsIn K mainGlobals "read_heard" = some (some (.ref (He.ga K "read_heard"))) := of_dec Z
  clear Z
  obtain ⟨Z, R4_14⟩ := of_and R4_13
  clear R4_13
  have a_law_sets : PySem.W.nsIn K mainGlobals "_law_sets" = some (some (.ref (He.ga K "_law_sets"))) := of_dec Z
  clear Z
  obtain ⟨Z, R4_15⟩ := of_and R4_14
  clear R4_14
  have a_law_heard_read : PySem.W.nsIn K mainGlobals "_law_heard_read" = some (some (.ref (He.ga K "_law_heard_read"))) := of_dec Z
  clear Z
  obtain ⟨Z, R4_16⟩ := of_and R4_15
  clear R4_15
  have a_law : PySem.W.nsIn K mainGlobals "law" = some (some (.ref (He.ga K "law"))) := of_dec Z
  clear Z
  obtain ⟨Z, R4_17⟩ := of_and R4_16
  clear R4_16
  have ch_law : PySem.W.codeHdIn K (codF K (He.ga K "law")) (tabF K (codF K (He.ga K "law"))) = true := Z
  clear Z
  clear R4_17
  have U := S.ok
  have V := S.val
  obtain ⟨⟨Z1, Z2⟩, U0, V0⟩ := fn_cons U V
  clear U V
  obtain ⟨od_law_source, sl_law_source, oc_law_source, kV_law_source, dc_law_source, pm_law_source, ct_law_source, cd_law_source, an_law_source, k_law_source, l_law_source, c_law_source⟩ := FnF.plain Z2 Z1
  clear Z1 Z2
  obtain ⟨⟨Z1, Z2⟩, U1, V1⟩ := fn_cons U0 V0
  clear U0 V0
  obtain ⟨od_law_next, sl_law_next, oc_law_next, kV_law_next, dc_law_next, pm_law_next, ct_law_next, cd_law_next, an_law_next, k_law_next, l_law_next, c_law_next⟩ := FnF.plain Z2 Z1
  clear Z1 Z2
  obtain ⟨⟨Z1, Z2⟩, U2, V2⟩ := fn_cons U1 V1
  clear U1 V1
  obtain ⟨od_law_mixed, sl_law_mixed, oc_law_mixed, kV_law_mixed, dc_law_mixed, pm_law_mixed, ct_law_mixed, cd_law_mixed, an_law_mixed, k_law_mixed, l_law_mixed, c_law_mixed⟩ := FnF.plain Z2 Z1
  clear Z1 Z2
  obtain ⟨⟨Z1, Z2⟩, U3, V3⟩ := fn_cons U2 V2
  clear U2 V2
  obtain ⟨od_law_great_bells, sl_law_great_bells, oc_law_great_bells, kV_law_great_bells, dc_law_great_bells, pm_law_great_bells, ct_law_great_bells, cd_law_great_bells, an_law_great_bells, k_law_great_bells, l_law_great_bells, c_law_great_bells⟩ := FnF.plain Z2 Z1
  clear Z1 Z2
  obtain ⟨⟨Z1, Z2⟩, U4, V4⟩ := fn_cons U3 V3
  clear U3 V3
  obtain ⟨od_law_bells, sl_law_bells, oc_law_bells, kV_law_bells, dc_law_bells, pm_law_bells, ct_law_bells, cd_law_bells, an_law_bells, k_law_bells, l_law_bells, c_law_bells⟩ := FnF.plain Z2 Z1
  clear Z1 Z2
  obtain ⟨⟨Z1, Z2⟩, U5, V5⟩ := fn_cons U4 V4
  clear U4 V4
  obtain ⟨od_law_at, sl_law_at, oc_law_at, kV_law_at, dc_law_at, pm_law_at, ct_law_at, cd_law_at, an_law_at, k_law_at, l_law_at, c_law_at⟩ := FnF.plain Z2 Z1
  clear Z1 Z2
  obtain ⟨⟨Z1, Z2⟩, U6, V6⟩ := fn_cons U5 V5
  clear U5 V5
  obtain ⟨od_law_timed, sl_law_timed, oc_law_timed, kV_law_timed, dc_law_timed, pm_law_timed, ct_law_timed, cd_law_timed, an_law_timed, k_law_timed, l_law_timed, c_law_timed⟩ := FnF.plain Z2 Z1
  clear Z1 Z2
  obtain ⟨⟨Z1, Z2⟩, U7, V7⟩ := fn_cons U6 V6
  clear U6 V6
  obtain ⟨od_law_chimes, sl_law_chimes, oc_law_chimes, kV_law_chimes, dc_law_chimes, pm_law_chimes, ct_law_chimes, cd_law_chimes, an_law_chimes, k_law_chimes, l_law_chimes, c_law_chimes⟩ := FnF.plain Z2 Z1
  clear Z1 Z2
  obtain ⟨⟨Z1, Z2⟩, U8, V8⟩ := fn_cons U7 V7
  clear U7 V7
  obtain ⟨od_law_row, sl_law_row, oc_law_row, kV_law_row, dc_law_row, pm_law_row, ct_law_row, cd_law_row, an_law_row, k_law_row, l_law_row, c_law_row⟩ := FnF.plain Z2 Z1
  clear Z1 Z2
  obtain ⟨⟨Z1, Z2⟩, U9, V9⟩ := fn_cons U8 V8
  clear U8 V8
  obtain ⟨od_is_name, sl_is_name, oc_is_name, kV_is_name, dc_is_name, pm_is_name, ct_is_name, cd_is_name, an_is_name, k_is_name, l_is_name, c_is_name⟩ := FnF.plain Z2 Z1
  clear Z1 Z2
  obtain ⟨⟨Z1, Z2⟩, U10, V10⟩ := fn_cons U9 V9
  clear U9 V9
  obtain ⟨od_is_integer, sl_is_integer, oc_is_integer, kV_is_integer, dc_is_integer, pm_is_integer, ct_is_integer, cd_is_integer, an_is_integer, k_is_integer, l_is_integer, c_is_integer⟩ := FnF.plain Z2 Z1
  clear Z1 Z2
  obtain ⟨⟨Z1, Z2⟩, U11, V11⟩ := fn_cons U10 V10
  clear U10 V10
  obtain ⟨od_is_bell, sl_is_bell, oc_is_bell, kV_is_bell, dc_is_bell, pm_is_bell, ct_is_bell, cd_is_bell, an_is_bell, k_is_bell, l_is_bell, c_is_bell⟩ := FnF.plain Z2 Z1
  clear Z1 Z2
  obtain ⟨⟨Z1, Z2⟩, U12, V12⟩ := fn_cons U11 V11
  clear U11 V11
  obtain ⟨od_tower_faults, sl_tower_faults, oc_tower_faults, kV_tower_faults, dc_tower_faults, pm_tower_faults, ct_tower_faults, cd_tower_faults, an_tower_faults, k_tower_faults, l_tower_faults, c_tower_faults⟩ := FnF.plain Z2 Z1
  clear Z1 Z2
  obtain ⟨⟨Z1, Z2⟩, U13, V13⟩ := fn_cons U12 V12
  clear U12 V12
  obtain ⟨od_InvalidTower___init, sl_InvalidTower___init, oc_InvalidTower___init, kV_InvalidTower___init, dc_InvalidTower___init, pm_InvalidTower___init, ct_InvalidTower___init, cd_InvalidTower___init, an_InvalidTower___init, T_InvalidTower___init, oT_InvalidTower___init, dT_InvalidTower___init, nT_InvalidTower___init, sT_InvalidTower___init, k_InvalidTower___init, l_InvalidTower___init, c_InvalidTower___init, lT_InvalidTower___init⟩ := FnF.dnone Z2 Z1
  clear Z1 Z2
  obtain ⟨⟨Z1, Z2⟩, U14, V14⟩ := fn_cons U13 V13
  clear U13 V13
  obtain ⟨od_common_multiple, sl_common_multiple, oc_common_multiple, kV_common_multiple, dc_common_multiple, pm_common_multiple, ct_common_multiple, cd_common_multiple, an_common_multiple, k_common_multiple, l_common_multiple, c_common_multiple⟩ := FnF.plain Z2 Z1
  clear Z1 Z2
  obtain ⟨⟨Z1, Z2⟩, U15, V15⟩ := fn_cons U14 V14
  clear U14 V14
  obtain ⟨od_Tower___init, sl_Tower___init, oc_Tower___init, kV_Tower___init, dc_Tower___init, pm_Tower___init, ct_Tower___init, cd_Tower___init, an_Tower___init, k_Tower___init, l_Tower___init, c_Tower___init⟩ := FnF.plain Z2 Z1
  clear Z1 Z2
  obtain ⟨⟨Z1, Z2⟩, U16, V16⟩ := fn_cons U15 V15
  clear U15 V15
  obtain ⟨od_InvalidHeard___init, sl_InvalidHeard___init, oc_InvalidHeard___init, kV_InvalidHeard___init, dc_InvalidHeard___init, pm_InvalidHeard___init, ct_InvalidHeard___init, cd_InvalidHeard___init, an_InvalidHeard___init, T_InvalidHeard___init, oT_InvalidHeard___init, dT_InvalidHeard___init, nT_InvalidHeard___init, sT_InvalidHeard___init, k_InvalidHeard___init, l_InvalidHeard___init, c_InvalidHeard___init, lT_InvalidHeard___init⟩ := FnF.dnone Z2 Z1
  clear Z1 Z2
  obtain ⟨⟨Z1, Z2⟩, U17, V17⟩ := fn_cons U16 V16
  clear U16 V16
  obtain ⟨od_is_chime, sl_is_chime, oc_is_chime, kV_is_chime, dc_is_chime, pm_is_chime, ct_is_chime, cd_is_chime, an_is_chime, k_is_chime, l_is_chime, c_is_chime⟩ := FnF.plain Z2 Z1
  clear Z1 Z2
  obtain ⟨⟨Z1, Z2⟩, U18, V18⟩ := fn_cons U17 V17
  clear U17 V17
  obtain ⟨od_Tower_check_heard, sl_Tower_check_heard, oc_Tower_check_heard, kV_Tower_check_heard, dc_Tower_check_heard, pm_Tower_check_heard, ct_Tower_check_heard, cd_Tower_check_heard, an_Tower_check_heard, k_Tower_check_heard, l_Tower_check_heard, c_Tower_check_heard⟩ := FnF.plain Z2 Z1
  clear Z1 Z2
  obtain ⟨⟨Z1, Z2⟩, U19, V19⟩ := fn_cons U18 V18
  clear U18 V18
  obtain ⟨od_heard_text, sl_heard_text, oc_heard_text, kV_heard_text, dc_heard_text, pm_heard_text, ct_heard_text, cd_heard_text, an_heard_text, k_heard_text, l_heard_text, c_heard_text⟩ := FnF.plain Z2 Z1
  clear Z1 Z2
  obtain ⟨⟨Z1, Z2⟩, U20, V20⟩ := fn_cons U19 V19
  clear U19 V19
  obtain ⟨od_Tower_bells, sl_Tower_bells, oc_Tower_bells, kV_Tower_bells, dc_Tower_bells, pm_Tower_bells, ct_Tower_bells, cd_Tower_bells, an_Tower_bells, k_Tower_bells, l_Tower_bells, c_Tower_bells⟩ := FnF.plain Z2 Z1
  clear Z1 Z2
  obtain ⟨⟨Z1, Z2⟩, U21, V21⟩ := fn_cons U20 V20
  clear U20 V20
  obtain ⟨od_tower_text, sl_tower_text, oc_tower_text, kV_tower_text, dc_tower_text, pm_tower_text, ct_tower_text, cd_tower_text, an_tower_text, k_tower_text, l_tower_text, c_tower_text⟩ := FnF.plain Z2 Z1
  clear Z1 Z2
  obtain ⟨⟨Z1, Z2⟩, U22, V22⟩ := fn_cons U21 V21
  clear U21 V21
  obtain ⟨od_law_bent_page, sl_law_bent_page, oc_law_bent_page, kV_law_bent_page, dc_law_bent_page, pm_law_bent_page, ct_law_bent_page, cd_law_bent_page, an_law_bent_page, k_law_bent_page, l_law_bent_page, c_law_bent_page⟩ := FnF.plain Z2 Z1
  clear Z1 Z2
  obtain ⟨⟨Z1, Z2⟩, U23, V23⟩ := fn_cons U22 V22
  clear U22 V22
  obtain ⟨od_law_tower_read, sl_law_tower_read, oc_law_tower_read, kV_law_tower_read, dc_law_tower_read, pm_law_tower_read, ct_law_tower_read, cd_law_tower_read, an_law_tower_read, k_law_tower_read, l_law_tower_read, c_law_tower_read⟩ := FnF.plain Z2 Z1
  clear Z1 Z2
  obtain ⟨⟨Z1, Z2⟩, U24, V24⟩ := fn_cons U23 V23
  clear U23 V23
  obtain ⟨od_law_read_told, sl_law_read_told, oc_law_read_told, kV_law_read_told, dc_law_read_told, pm_law_read_told, ct_law_read_told, cd_law_read_told, an_law_read_told, k_law_read_told, l_law_read_told, c_law_read_told⟩ := FnF.plain Z2 Z1
  clear Z1 Z2
  obtain ⟨⟨Z1, Z2⟩, U25, V25⟩ := fn_cons U24 V24
  clear U24 V24
  obtain ⟨od_ParseError___init, sl_ParseError___init, oc_ParseError___init, kV_ParseError___init, dc_ParseError___init, pm_ParseError___init, ct_ParseError___init, cd_ParseError___init, an_ParseError___init, k_ParseError___init, l_ParseError___init, c_ParseError___init⟩ := FnF.plain Z2 Z1
  clear Z1 Z2
  obtain ⟨⟨Z1, Z2⟩, U26, V26⟩ := fn_cons U25 V25
  clear U25 V25
  obtain ⟨od_need_text, sl_need_text, oc_need_text, kV_need_text, dc_need_text, pm_need_text, ct_need_text, cd_need_text, an_need_text, k_need_text, l_need_text, c_need_text⟩ := FnF.plain Z2 Z1
  clear Z1 Z2
  obtain ⟨⟨Z1, Z2⟩, U27, V27⟩ := fn_cons U26 V26
  clear U26 V26
  obtain ⟨od_is_period, sl_is_period, oc_is_period, kV_is_period, dc_is_period, pm_is_period, ct_is_period, cd_is_period, an_is_period, k_is_period, l_is_period, c_is_period⟩ := FnF.plain Z2 Z1
  clear Z1 Z2
  obtain ⟨⟨Z1, Z2⟩, U28, V28⟩ := fn_cons U27 V27
  clear U27 V27
  obtain ⟨od_read_tower, sl_read_tower, oc_read_tower, kV_read_tower, dc_read_tower, pm_read_tower, ct_read_tower, cd_read_tower, an_read_tower, k_read_tower, l_read_tower, c_read_tower⟩ := FnF.plain Z2 Z1
  clear Z1 Z2
  obtain ⟨⟨Z1, Z2⟩, U29, V29⟩ := fn_cons U28 V28
  clear U28 V28
  obtain ⟨od_Tower_names, sl_Tower_names, oc_Tower_names, kV_Tower_names, dc_Tower_names, pm_Tower_names, ct_Tower_names, cd_Tower_names, an_Tower_names, k_Tower_names, l_Tower_names, c_Tower_names⟩ := FnF.plain Z2 Z1
  clear Z1 Z2
  obtain ⟨⟨Z1, Z2⟩, U30, V30⟩ := fn_cons U29 V29
  clear U29 V29
  obtain ⟨od_read_heard, sl_read_heard, oc_read_heard, kV_read_heard, dc_read_heard, pm_read_heard, ct_read_heard, cd_read_heard, an_read_heard, k_read_heard, l_read_heard, c_read_heard⟩ := FnF.plain Z2 Z1
  clear Z1 Z2
  obtain ⟨⟨Z1, Z2⟩, U31, V31⟩ := fn_cons U30 V30
  clear U30 V30
  obtain ⟨od_law_sets, sl_law_sets, oc_law_sets, kV_law_sets, dc_law_sets, pm_law_sets, ct_law_sets, cd_law_sets, an_law_sets, k_law_sets, l_law_sets, c_law_sets⟩ := FnF.plain Z2 Z1
  clear Z1 Z2
  obtain ⟨⟨Z1, Z2⟩, U32, V32⟩ := fn_cons U31 V31
  clear U31 V31
  obtain ⟨od_law_heard_read, sl_law_heard_read, oc_law_heard_read, kV_law_heard_read, dc_law_heard_read, pm_law_heard_read, ct_law_heard_read, cd_law_heard_read, an_law_heard_read, k_law_heard_read, l_law_heard_read, c_law_heard_read⟩ := FnF.plain Z2 Z1
  clear Z1 Z2
  obtain ⟨⟨Z1, Z2⟩, U33, V33⟩ := fn_cons U32 V32
  clear U32 V32
  obtain ⟨od_law, sl_law, oc_law, kV_law, dc_law, pm_law, ct_law, cd_law, an_law, k_law, l_law, c_law⟩ := FnF.plain Z2 Z1
  clear Z1 Z2
  obtain rfl := codF_eq l_law c_law
  have it_law : (tabF K (codF K (He.ga K "law"))) ∈ tbL K := List.mem_cons_self
  obtain ⟨oo_law, do_law, vo_law, so_law, lo_law, ti_law⟩ := tabF_ok ch_law
  have nk_law := S.out _ it_law
  have hTs : ∀ P ∈ tbL K, h.get? P = some (PySem.W.tabObj #[]) := S.empty
  have e := hfa.symm.trans (PySem.W.mg_of X G a_law)
  cases e
  have Tx : ∀ base : Heap, (∀ p ∈ (⟨fun i => match i with | 0 => (He.ga K "BellError") | 1 => (He.ga K "InvalidTower") | 2 => (He.ga K "InvalidName") | 3 => (He.ga K "InvalidHeard") | 4 => (He.ga K "InvalidNumber") | 5 => (He.ga K "ParseError") | 6 => (He.ga K "Tower") | _ => 0, w, [((tabF K (codF K (He.ga K "law"))), ("law" : Str) ++ ".<locals>." ++ "<lambda>")], [((codF K (He.ga K "law")), (tabF K (codF K (He.ga K "law"))))]⟩ : CM).codes, LamX.TabB base mg p.1 p.2) → Txt K mg (⟨fun i => match i with | 0 => (He.ga K "BellError") | 1 => (He.ga K "InvalidTower") | 2 => (He.ga K "InvalidName") | 3 => (He.ga K "InvalidHeard") | 4 => (He.ga K "InvalidNumber") | 5 => (He.ga K "ParseError") | 6 => (He.ga K "Tower") | _ => 0, w, [((tabF K (codF K (He.ga K "law"))), ("law" : Str) ++ ".<locals>." ++ "<lambda>")], [((codF K (He.ga K "law")), (tabF K (codF K (He.ga K "law"))))]⟩) base := fun base TB => {
    tb := TB
    b_range := PySem.W.mg_none_of X G z_range
    b_max := PySem.W.mg_none_of X G z_max
    b_min := PySem.W.mg_none_of X G z_min
    b_len := PySem.W.mg_none_of X G z_len
    f_law_source := ⟨_, _, PySem.W.mg_of X G a_law_source, k_law_source, ((fun_mk (st := s_law_source) l_law_source c_law_source k_law_source).binds (ps := ["_law_script", "_law_k"]) fun _ _ _ _ _ _ us hl => match us, hl with | [_, _], _ => rfl), (fun_mk (st := s_law_source) l_law_source c_law_source k_law_source)⟩
    b_sorted := PySem.W.mg_none_of X G z_sorted
    b_list := PySem.W.mg_none_of X G z_list
    f_law_next := ⟨_, _, PySem.W.mg_of X G a_law_next, k_law_next, ((fun_mk (st := s_law_next) l_law_next c_law_next k_law_next).binds (ps := ["_law_source_here", "_law_many"]) fun _ _ _ _ _ _ us hl => match us, hl with | [_, _], _ => rfl), (fun_mk (st := s_law_next) l_law_next c_law_next k_law_next)⟩
    f_law_mixed := ⟨_, _, PySem.W.mg_of X G a_law_mixed, k_law_mixed, ((fun_mk (st := s_law_mixed) l_law_mixed c_law_mixed k_law_mixed).binds (ps := ["_law_source_here", "_law_items"]) fun _ _ _ _ _ _ us hl => match us, hl with | [_, _], _ => rfl), (fun_mk (st := s_law_mixed) l_law_mixed c_law_mixed k_law_mixed)⟩
    b_tuple := PySem.W.mg_none_of X G z_tuple
    f_law_great_bells := ⟨_, _, PySem.W.mg_of X G a_law_great_bells, k_law_great_bells, ((fun_mk (st := s_law_great_bells) l_law_great_bells c_law_great_bells k_law_great_bells).binds (ps := ["_law_source_here"]) fun _ _ _ _ _ _ us hl => match us, hl with | [_], _ => rfl), (fun_mk (st := s_law_great_bells) l_law_great_bells c_law_great_bells k_law_great_bells)⟩
    f_law_bells := ⟨_, _, PySem.W.mg_of X G a_law_bells, k_law_bells, ((fun_mk (st := s_law_bells) l_law_bells c_law_bells k_law_bells).binds (ps := ["_law_source_here", "_law_top"]) fun _ _ _ _ _ _ us hl => match us, hl with | [_, _], _ => rfl), (fun_mk (st := s_law_bells) l_law_bells c_law_bells k_law_bells)⟩
    b_zip := PySem.W.mg_none_of X G z_zip
    f_law_at := ⟨_, _, PySem.W.mg_of X G a_law_at, k_law_at, ((fun_mk (st := s_law_at) l_law_at c_law_at k_law_at).binds (ps := ["_law_bells_here", "_law_row_here", "_law_time"]) fun _ _ _ _ _ _ us hl => match us, hl with | [_, _, _], _ => rfl), (fun_mk (st := s_law_at) l_law_at c_law_at k_law_at)⟩
    f_law_timed := ⟨_, _, PySem.W.mg_of X G a_law_timed, k_law_timed, ((fun_mk (st := s_law_timed) l_law_timed c_law_timed k_law_timed).binds (ps := ["_law_bells_here", "_law_row_here", "_law_many"]) fun _ _ _ _ _ _ us hl => match us, hl with | [_, _, _], _ => rfl), (fun_mk (st := s_law_timed) l_law_timed c_law_timed k_law_timed)⟩
    f_law_chimes := ⟨_, _, PySem.W.mg_of X G a_law_chimes, k_law_chimes, ((fun_mk (st := s_law_chimes) l_law_chimes c_law_chimes k_law_chimes).binds (ps := ["_law_bells_here", "_law_row_here", "_law_many"]) fun _ _ _ _ _ _ us hl => match us, hl with | [_, _, _], _ => rfl), (fun_mk (st := s_law_chimes) l_law_chimes c_law_chimes k_law_chimes)⟩
    f_law_row := ⟨_, _, PySem.W.mg_of X G a_law_row, k_law_row, ((fun_mk (st := s_law_row) l_law_row c_law_row k_law_row).binds (ps := ["_law_source_here", "_law_bells_here"]) fun _ _ _ _ _ _ us hl => match us, hl with | [_, _], _ => rfl), (fun_mk (st := s_law_row) l_law_row c_law_row k_law_row)⟩
    b_isinstance := PySem.W.mg_none_of X G z_isinstance
    ec_BellError := ⟨xg_BellError, xk_BellError, be_BellError, hd_BellError, kc2_BellError, gs, gt, mo_BellError⟩
    ec_InvalidTower := ⟨xg_InvalidTower, xk_InvalidTower, be_InvalidTower, hd_InvalidTower, kc2_InvalidTower, gs, gt, mo_InvalidTower⟩
    ec_InvalidName := ⟨xg_InvalidName, xk_InvalidName, be_InvalidName, hd_InvalidName, kc2_InvalidName, gs, gt, mo_InvalidName⟩
    ec_InvalidHeard := ⟨xg_InvalidHeard, xk_InvalidHeard, be_InvalidHeard, hd_InvalidHeard, kc2_InvalidHeard, gs, gt, mo_InvalidHeard⟩
    ec_InvalidNumber := ⟨xg_InvalidNumber, xk_InvalidNumber, be_InvalidNumber, hd_InvalidNumber, kc2_InvalidNumber, gs, gt, mo_InvalidNumber⟩
    ec_ParseError := ⟨xg_ParseError, xk_ParseError, be_ParseError, hd_ParseError, kc2_ParseError, gs, gt, mo_ParseError⟩
    ec_Tower := ⟨⟨pg_Tower, hd_Tower, po_Tower, sa_Tower⟩, kc2_Tower, gs, gt, mo_Tower⟩
    mg_Tower := PySem.W.mg_of X G aC_Tower
    cv_Tower_MAX_BELLS := ⟨_, _, ⟨rd_Tower, ga_Tower⟩, ⟨v_Tower_MAX_BELLS, ⟨_, rfl⟩⟩⟩
    b_enumerate := PySem.W.mg_none_of X G z_enumerate
    b_str := PySem.W.mg_none_of X G z_str
    g_LETTERS := ⟨_, PySem.W.mg_of X G g_LETTERS⟩
    f_is_name := ⟨_, _, PySem.W.mg_of X G a_is_name, k_is_name, ((fun_mk (st := s_is_name) l_is_name c_is_name k_is_name).binds (ps := ["value"]) fun _ _ _ _ _ _ us hl => match us, hl with | [_], _ => rfl), (fun_mk (st := s_is_name) l_is_name c_is_name k_is_name)⟩
    b_int := PySem.W.mg_none_of X G z_int
    b_bool := PySem.W.mg_none_of X G z_bool
    f_is_integer := ⟨_, _, PySem.W.mg_of X G a_is_integer, k_is_integer, ((fun_mk (st := s_is_integer) l_is_integer c_is_integer k_is_integer).binds (ps := ["value", "least", "most"]) fun _ _ _ _ _ _ us hl => match us, hl with | [_, _, _], _ => rfl), (fun_mk (st := s_is_integer) l_is_integer c_is_integer k_is_integer)⟩
    cv_Tower_MAX_PERIOD := ⟨_, _, ⟨rd_Tower, ga_Tower⟩, ⟨v_Tower_MAX_PERIOD, ⟨_, rfl⟩⟩⟩
    f_is_bell := ⟨_, _, PySem.W.mg_of X G a_is_bell, k_is_bell, ((fun_mk (st := s_is_bell) l_is_bell c_is_bell k_is_bell).binds (ps := ["value"]) fun _ _ _ _ _ _ us hl => match us, hl with | [_], _ => rfl), (fun_mk (st := s_is_bell) l_is_bell c_is_bell k_is_bell)⟩
    f_tower_faults := ⟨_, _, PySem.W.mg_of X G a_tower_faults, k_tower_faults, ((fun_mk (st := s_tower_faults) l_tower_faults c_tower_faults k_tower_faults).binds (ps := ["value"]) fun _ _ _ _ _ _ us hl => match us, hl with | [_], _ => rfl), (fun_mk (st := s_tower_faults) l_tower_faults c_tower_faults k_tower_faults)⟩
    mg_InvalidTower := PySem.W.mg_of X G aC_InvalidTower
    ox_InvalidTower := ⟨⟨_, _, _, _, _, _, _, _, _, _, _, _, _, _, _, _, _, _, _, x_InvalidTower, .ve, rfl⟩, sa_InvalidTower, be_InvalidTower, tc_InvalidTower, kc_InvalidTower⟩
    ri_InvalidTower := ⟨_, _, _, _, _, _, _, _, _, _, _, b_InvalidTower___init, tf_InvalidTower___init, (binds_one (ps := ["self", "index"]) l_InvalidTower___init c_InvalidTower___init k_InvalidTower___init lT_InvalidTower___init fun _ _ _ _ _ _ _ us its h1 h2 => match us, h1, its, h2 with | [_, _], _, [_], _ => ⟨_, rfl, rfl⟩), l_InvalidTower___init, c_InvalidTower___init, n_InvalidTower_index⟩
    cl_Tower := ⟨pg_Tower, hd_Tower, po_Tower, sa_Tower⟩
    na_Tower_own_bells := n_Tower_own_bells
    na_Tower_own_names := n_Tower_own_names
    na_Tower_own_periods := n_Tower_own_periods
    f_common_multiple := ⟨_, _, PySem.W.mg_of X G a_common_multiple, k_common_multiple, ((fun_mk (st := s_common_multiple) l_common_multiple c_common_multiple k_common_multiple).binds (ps := ["numbers"]) fun _ _ _ _ _ _ us hl => match us, hl with | [_], _ => rfl), (fun_mk (st := s_common_multiple) l_common_multiple c_common_multiple k_common_multiple)⟩
    na_Tower_own_round := n_Tower_own_round
    i_Tower := ⟨_, _, ⟨mk_Tower, b_Tower___init, i_Tower___init, kc_Tower⟩, ((fun_mk (st := s_Tower___init) l_Tower___init c_Tower___init k_Tower___init).binds (ps := ["self", "bells"]) fun _ _ _ _ _ _ us hl => match us, hl with | [_, _], _ => rfl), (fun_mk (st := s_Tower___init) l_Tower___init c_Tower___init k_Tower___init)⟩
    co_Tower_MAX_HEARD := ⟨_, ⟨w_Tower_MAX_HEARD, ⟨_, rfl⟩, rfl, by decide +kernel⟩⟩
    mg_InvalidHeard := PySem.W.mg_of X G aC_InvalidHeard
    ox_InvalidHeard := ⟨⟨_, _, _, _, _, _, _, _, _, _, _, _, _, _, _, _, _, _, _, x_InvalidHeard, .ve, rfl⟩, sa_InvalidHeard, be_InvalidHeard, tc_InvalidHeard, kc_InvalidHeard⟩
    ri_InvalidHeard := ⟨_, _, _, _, _, _, _, _, _, _, _, b_InvalidHeard___init, tf_InvalidHeard___init, (binds_one (ps := ["self", "index"]) l_InvalidHeard___init c_InvalidHeard___init k_InvalidHeard___init lT_InvalidHeard___init fun _ _ _ _ _ _ _ us its h1 h2 => match us, h1, its, h2 with | [_, _], _, [_], _ => ⟨_, rfl, rfl⟩), l_InvalidHeard___init, c_InvalidHeard___init, n_InvalidHeard_index⟩
    f_is_chime := ⟨_, _, PySem.W.mg_of X G a_is_chime, k_is_chime, ((fun_mk (st := s_is_chime) l_is_chime c_is_chime k_is_chime).binds (ps := ["names", "value"]) fun _ _ _ _ _ _ us hl => match us, hl with | [_, _], _ => rfl), (fun_mk (st := s_is_chime) l_is_chime c_is_chime k_is_chime)⟩
    m_Tower_check_heard := ⟨_, _, ⟨b_Tower_check_heard, i_Tower_check_heard, k_Tower_check_heard⟩, ((fun_mk (st := s_Tower_check_heard) l_Tower_check_heard c_Tower_check_heard k_Tower_check_heard).binds (ps := ["self", "value"]) fun _ _ _ _ _ _ us hl => match us, hl with | [_, _], _ => rfl), (fun_mk (st := s_Tower_check_heard) l_Tower_check_heard c_Tower_check_heard k_Tower_check_heard)⟩
    f_heard_text := ⟨_, _, PySem.W.mg_of X G a_heard_text, k_heard_text, ((fun_mk (st := s_heard_text) l_heard_text c_heard_text k_heard_text).binds (ps := ["tower", "heard"]) fun _ _ _ _ _ _ us hl => match us, hl with | [_, _], _ => rfl), (fun_mk (st := s_heard_text) l_heard_text c_heard_text k_heard_text)⟩
    p_Tower_bells := ⟨_, _, _, ⟨b_Tower_bells, pge_Tower_bells, pta_Tower_bells, ⟨_, pre_Tower_bells⟩⟩, ((fun_mk (st := s_Tower_bells) l_Tower_bells c_Tower_bells k_Tower_bells).binds (ps := ["self"]) fun _ _ _ _ _ _ us hl => match us, hl with | [_], _ => rfl), (fun_mk (st := s_Tower_bells) l_Tower_bells c_Tower_bells k_Tower_bells)⟩
    f_tower_text := ⟨_, _, PySem.W.mg_of X G a_tower_text, k_tower_text, ((fun_mk (st := s_tower_text) l_tower_text c_tower_text k_tower_text).binds (ps := ["tower"]) fun _ _ _ _ _ _ us hl => match us, hl with | [_], _ => rfl), (fun_mk (st := s_tower_text) l_tower_text c_tower_text k_tower_text)⟩
    f_law_bent_page := ⟨_, _, PySem.W.mg_of X G a_law_bent_page, k_law_bent_page, ((fun_mk (st := s_law_bent_page) l_law_bent_page c_law_bent_page k_law_bent_page).binds (ps := ["_law_source_here", "_law_page"]) fun _ _ _ _ _ _ us hl => match us, hl with | [_, _], _ => rfl), (fun_mk (st := s_law_bent_page) l_law_bent_page c_law_bent_page k_law_bent_page)⟩
    f_law_tower_read := ⟨_, _, PySem.W.mg_of X G a_law_tower_read, k_law_tower_read, ((fun_mk (st := s_law_tower_read) l_law_tower_read c_law_tower_read k_law_tower_read).binds (ps := ["_law_page"]) fun _ _ _ _ _ _ us hl => match us, hl with | [_], _ => rfl), (fun_mk (st := s_law_tower_read) l_law_tower_read c_law_tower_read k_law_tower_read)⟩
    mg_ParseError := PySem.W.mg_of X G aC_ParseError
    em_BellError_ParseError := exm_of be_ParseError ic_ParseError tc_ParseError sb_BellError_ParseError
    em_InvalidTower_ParseError := exm_of be_ParseError ic_ParseError tc_ParseError sb_InvalidTower_ParseError
    em_InvalidName_ParseError := exm_of be_ParseError ic_ParseError tc_ParseError sb_InvalidName_ParseError
    em_InvalidHeard_ParseError := exm_of be_ParseError ic_ParseError tc_ParseError sb_InvalidHeard_ParseError
    em_InvalidNumber_ParseError := exm_of be_ParseError ic_ParseError tc_ParseError sb_InvalidNumber_ParseError
    em_ParseError_ParseError := exm_of be_ParseError ic_ParseError tc_ParseError sb_ParseError_ParseError
    xf_ParseError := ⟨xg_ParseError, xk_ParseError, be_ParseError, hd_ParseError⟩
    xn_ParseError_word := n_ParseError_word
    xn_ParseError_line := n_ParseError_line
    f_law_read_told := ⟨_, _, PySem.W.mg_of X G a_law_read_told, k_law_read_told, ((fun_mk (st := s_law_read_told) l_law_read_told c_law_read_told k_law_read_told).binds (ps := ["_law_action"]) fun _ _ _ _ _ _ us hl => match us, hl with | [_], _ => rfl), (fun_mk (st := s_law_read_told) l_law_read_told c_law_read_told k_law_read_told)⟩
    ox_ParseError := ⟨⟨_, _, _, _, _, _, _, _, _, _, _, _, _, _, _, _, _, _, _, x_ParseError, .ve, rfl⟩, sa_ParseError, be_ParseError, tc_ParseError, kc_ParseError⟩
    ri_ParseError := ⟨_, _, _, _, _, _, _, _, _, _, _, b_ParseError___init, tf_ParseError___init, ((fun_mk (st := s_ParseError___init) l_ParseError___init c_ParseError___init k_ParseError___init).binds (ps := ["self", "line", "word"]) fun _ _ _ _ _ _ us hl => match us, hl with | [_, _, _], _ => rfl), l_ParseError___init, c_ParseError___init, n_ParseError_line, n_ParseError_word⟩
    f_need_text := ⟨_, _, PySem.W.mg_of X G a_need_text, k_need_text, ((fun_mk (st := s_need_text) l_need_text c_need_text k_need_text).binds (ps := ["text"]) fun _ _ _ _ _ _ us hl => match us, hl with | [_], _ => rfl), (fun_mk (st := s_need_text) l_need_text c_need_text k_need_text)⟩
    f_is_period := ⟨_, _, PySem.W.mg_of X G a_is_period, k_is_period, ((fun_mk (st := s_is_period) l_is_period c_is_period k_is_period).binds (ps := ["word"]) fun _ _ _ _ _ _ us hl => match us, hl with | [_], _ => rfl), (fun_mk (st := s_is_period) l_is_period c_is_period k_is_period)⟩
    f_read_tower := ⟨_, _, PySem.W.mg_of X G a_read_tower, k_read_tower, ((fun_mk (st := s_read_tower) l_read_tower c_read_tower k_read_tower).binds (ps := ["text"]) fun _ _ _ _ _ _ us hl => match us, hl with | [_], _ => rfl), (fun_mk (st := s_read_tower) l_read_tower c_read_tower k_read_tower)⟩
    b_repr := PySem.W.mg_none_of X G z_repr
    p_Tower_names := ⟨_, _, _, ⟨b_Tower_names, pge_Tower_names, pta_Tower_names, ⟨_, pre_Tower_names⟩⟩, ((fun_mk (st := s_Tower_names) l_Tower_names c_Tower_names k_Tower_names).binds (ps := ["self"]) fun _ _ _ _ _ _ us hl => match us, hl with | [_], _ => rfl), (fun_mk (st := s_Tower_names) l_Tower_names c_Tower_names k_Tower_names)⟩
    f_read_heard := ⟨_, _, PySem.W.mg_of X G a_read_heard, k_read_heard, ((fun_mk (st := s_read_heard) l_read_heard c_read_heard k_read_heard).binds (ps := ["tower", "text"]) fun _ _ _ _ _ _ us hl => match us, hl with | [_, _], _ => rfl), (fun_mk (st := s_read_heard) l_read_heard c_read_heard k_read_heard)⟩
    f_law_sets := ⟨_, _, PySem.W.mg_of X G a_law_sets, k_law_sets, ((fun_mk (st := s_law_sets) l_law_sets c_law_sets k_law_sets).binds (ps := ["_law_bells_here"]) fun _ _ _ _ _ _ us hl => match us, hl with | [_], _ => rfl), (fun_mk (st := s_law_sets) l_law_sets c_law_sets k_law_sets)⟩
    f_law_heard_read := ⟨_, _, PySem.W.mg_of X G a_law_heard_read, k_law_heard_read, ((fun_mk (st := s_law_heard_read) l_law_heard_read c_law_heard_read k_law_heard_read).binds (ps := ["_law_bells_here", "_law_page"]) fun _ _ _ _ _ _ us hl => match us, hl with | [_, _], _ => rfl), (fun_mk (st := s_law_heard_read) l_law_heard_read c_law_heard_read k_law_heard_read)⟩ }
  haveI : WC (⟨fun i => match i with | 0 => (He.ga K "BellError") | 1 => (He.ga K "InvalidTower") | 2 => (He.ga K "InvalidName") | 3 => (He.ga K "InvalidHeard") | 4 => (He.ga K "InvalidNumber") | 5 => (He.ga K "ParseError") | 6 => (He.ga K "Tower") | _ => 0, w, [((tabF K (codF K (He.ga K "law"))), ("law" : Str) ++ ".<locals>." ++ "<lambda>")], [((codF K (He.ga K "law")), (tabF K (codF K (He.ga K "law"))))]⟩) w := ⟨rfl⟩
  refine ⟨PySem.W.fnOf "law" "law" (defArgs s_law) (defBody s_law) (defScope s_law) .none kV_law dc_law pm_law an_law (.ref (codF K (He.ga K "law"))) ct_law, ⟨fun i => match i with | 0 => (He.ga K "BellError") | 1 => (He.ga K "InvalidTower") | 2 => (He.ga K "InvalidName") | 3 => (He.ga K "InvalidHeard") | 4 => (He.ga K "InvalidNumber") | 5 => (He.ga K "ParseError") | 6 => (He.ga K "Tower") | _ => 0, w, [((tabF K (codF K (He.ga K "law"))), ("law" : Str) ++ ".<locals>." ++ "<lambda>")], [((codF K (He.ga K "law")), (tabF K (codF K (He.ga K "law"))))]⟩, ?_, rfl, fun s v => .of_eq rfl, fun base _ _ TB => ?_⟩
  · refine ⟨fun p hp => ?_, fun p hp => ?_, fun p hp => ?_⟩ <;> simp only [List.mem_cons, List.not_mem_nil, or_false] at hp <;> rcases hp with rfl
    · exact hTs _ it_law
    · exact nk_law
    · exact PySem.W.codeHd_of_K X ch_law
  · exact def_pureC ⟨_, _, _, _, _, _, _, _, rfl, l_law, c_law⟩ sc_law fun A outer s H E ck => b_law (Tx base TB) (List.mem_cons_self) (by intro p hp h; simp only [List.mem_cons, List.not_mem_nil, or_false] at hp; rw [hp]) (List.mem_cons_self) ck
end G
open PySem PySem.W PyProof.Rows in
set_option maxRecDepth 100000 in
set_option maxHeartbeats 0 in
theorem PySem.Challenge.cw_heardorder_k56_texts_read_holds : PySem.Challenge.rw_heardorder_k56_texts_read.Holds := by
  w_on; o_law
  refine HandSHeadRun.head_any (r := G.RR) (q := G.qv) (H := G.hk) (ob := G.obh) (M := 20000) (loose := G.names) (d := G.dd) (kwd := []) DL.obF_eq
    G.h_e G.h_f G.run G.h_def G.h_p G.h_k (by rfl) (by first | assumption | decide +kernel) (by decide +kernel) ⟨rfl, rfl, rfl, rfl, rfl, by decide +kernel⟩ ?hw ?hc
  case hw => w_witness2
  case hc =>
    refine DL.walk_DE (l := PySem.Challenge.rw_heardorder_k56_texts_read) (n := 63) (k := 10) (x := "_law_script") (φ := G.F_law) rfl (by decide) (by kernel_rfl) ⟨rfl, by decide, by decide⟩ ?F (fun ns hl => Law.holds ns hl)
    intro w mg fa h Y GM hmg0
    obtain ⟨K, KX, c⟩ := Y
    have hmg : mg ("law" : PySem.Str) = some (.ref fa) := by
      rw [← G.h_n]
      exact hmg0
    obtain ⟨fd, cm, h1, h2, h3, h4⟩ := G.all_mkF (P := (PySem.Challenge.rw_heardorder_k56_texts_read).prog) (w := w) KX GM hmg c
    exact ⟨K, fd, cm, KX, h1, h2, h3, h4⟩