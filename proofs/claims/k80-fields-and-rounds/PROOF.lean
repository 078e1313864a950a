import PyProof.Rows.All
import Wide.All
import OpenK.AllK
import Wide.FinOn
import KE.KStateDown
import HandS.ForMost
import HandS.Walk
import HandS.Deep
import HandS.TupAny
import HandS.TupMul
import HandS.IsInst
import HandS.Flow
import HandS.SortInts
import HandS.Zip
import HandS.NoneIn
import HandS.Defaults
import KE.GoesMore
import HandS.Style
import HandS.Set
import HandS.SetFor
import HandS.Strs
import HandS.More
import HandS.Base
import HandS.Call
import HandS.Ends
import HandS.Words
import HandS.WordsExc
import HandS.Head0
import HandS.Head1
import HandS.Head2
import HandS.HeadEnd
import HandS.HeadHook1
import HandS.HeadHook2
import PySem.Challenge.RW_fieldwaters_k80_whole_fields_and_rounds
set_option Elab.async false
-- Fw1
section
set_option Elab.async false
set_option linter.all false
set_option maxRecDepth 100000
set_option maxHeartbeats 4000000
/-! Fw1: data, what stands for them in the heap, the relations between worlds. -/
namespace Fw
open PySem PySem.Spec PyProof.Rows L2

/-- a value of the program, without addresses; ref: a cell of the store (what is changed in place) -/
inductive Dat where
  | non | bl (b : Bool) | int (i : Int) | str (x : Str) | tup (xs : List Dat) | lst (xs : List Dat) | ref (n : Nat) | scr (xs : List Int)

inductive Cell where
  | lst (xs : List Dat)

abbrev Store := List Cell

section
variable (K : PySem.W.Frag)
def KTup (a : Addr) (xs : List V) : Prop :=
  ∃ (o : Obj) (its : Array Value) (n : Nat), K.lookup a = some o ∧ o.cls = .type "tuple" ∧ o.data = .seq its n ∧ its.size ≤ sizeLine ∧ Vals xs its.toList
def TupAt (H : Hp) (F : Addr → Prop) (a : Addr) (xs : List V) : Prop := (H a = some (.tup xs) ∧ ¬ F a) ∨ KTup K a xs
def KLst (a : Addr) (xs : List V) : Prop :=
  ∃ (o : Obj) (its : Array Value) (n : Nat), K.lookup a = some o ∧ o.cls = .type "list" ∧ o.dict = none ∧ o.data = .seq its n ∧ its.size ≤ sizeLine ∧ Vals xs its.toList
def ScrAt (H : Hp) (F : Addr → Prop) (a : Addr) (xs : List Int) : Prop := (∃ o, H a = some (.frz o (.lst (xs.map V.int))) ∧ ¬ F a) ∨ KLst K a (xs.map V.int)
mutual
inductive Rep (H : Hp) (F : Addr → Prop) (μ : List Addr) : V → Dat → Prop
  | non : Rep H F μ .non .non
  | bl (b : Bool) : Rep H F μ (.bl b) (.bl b)
  | int (i : Int) : Rep H F μ (.int i) (.int i)
  | str (x : Str) : Rep H F μ (.str x) (.str x)
  | tup {a : Addr} {xs : List V} {ds : List Dat} : TupAt K H F a xs → Reps H F μ xs ds → Rep H F μ (.ref a) (.tup ds)
  | lst {a : Addr} {xs : List V} {ds : List Dat} : H a = some (.lst xs) → ¬ F a → Reps H F μ xs ds → Rep H F μ (.ref a) (.lst ds)
  | ref {n : Nat} {a : Addr} : μ[n]? = some a → Rep H F μ (.ref a) (.ref n)
  | scr {a : Addr} {xs : List Int} : ScrAt K H F a xs → Rep H F μ (.ref a) (.scr xs)
inductive Reps (H : Hp) (F : Addr → Prop) (μ : List Addr) : List V → List Dat → Prop
  | nil : Reps H F μ [] []
  | cons {v : V} {vs : List V} {d : Dat} {ds : List Dat} : Rep H F μ v d → Reps H F μ vs ds → Reps H F μ (v :: vs) (d :: ds)
end
end

/-- from one world to a later one -/
structure Mo (H : Hp) (F : Addr → Prop) (μ : List Addr) (H' : Hp) (F' : Addr → Prop) (μ' : List Addr) : Prop where
  keep : ∀ a o, H a = some o → ¬ F a → H' a = some o
  new : ∀ a, F' a → F a ∨ H a = none
  pre : ∀ (n : Nat) (a : Addr), μ[n]? = some a → μ'[n]? = some a

theorem Mo.not {H H' : Hp} {F F' : Addr → Prop} {μ μ' : List Addr} (m : Mo H F μ H' F' μ') {a : Addr} {o : HO} (h : H a = some o) (f : ¬ F a) : ¬ F' a := fun q => by
  rcases m.new a q with q | q
  · exact f q
  · rw [h] at q; cases q
theorem Mo.refl {H : Hp} {F : Addr → Prop} {μ : List Addr} : Mo H F μ H F μ := ⟨fun _ _ h _ => h, fun _ h => .inl h, fun _ _ h => h⟩
theorem Mo.trans {H1 H2 H3 : Hp} {F1 F2 F3 : Addr → Prop} {μ1 μ2 μ3 : List Addr} (a : Mo H1 F1 μ1 H2 F2 μ2) (b : Mo H2 F2 μ2 H3 F3 μ3) : Mo H1 F1 μ1 H3 F3 μ3 :=
  ⟨fun c o h f => b.keep c o (a.keep c o h f) (a.not h f), fun c h => (by
    rcases b.new c h with q | q
    · exact a.new c q
    · by_cases f : F1 c
      · exact .inl f
      · cases e : H1 c with
        | none => exact .inr rfl
        | some o =>
          rw [a.keep c o e f] at q
          cases q), fun n c h => b.pre n c (a.pre n c h)⟩
section
variable {K : PySem.W.Frag} {H H' : Hp} {F F' : Addr → Prop} {μ μ' : List Addr}
theorem TupAt.mo {a : Addr} {xs : List V} (m : Mo H F μ H' F' μ') (h : TupAt K H F a xs) : TupAt K H' F' a xs := by
  rcases h with ⟨h, f⟩ | h
  · exact .inl ⟨m.keep _ _ h f, m.not h f⟩
  · exact .inr h
theorem TupAt.sq {a : Addr} {xs : List V} (h : TupAt K H F a xs) : SqT K H a xs := by
  rcases h with ⟨h, f⟩ | h
  · exact .inl (.inl h)
  · exact .inr h
mutual
theorem Rep.mo (m : Mo H F μ H' F' μ') : ∀ (d : Dat) (v : V), Rep K H F μ v d → Rep K H' F' μ' v d
  | .non, _, h => by cases h; exact .non
  | .bl _, _, h => by cases h; exact .bl _
  | .int _, _, h => by cases h; exact .int _
  | .str _, _, h => by cases h; exact .str _
  | .tup ds, _, h => by
    cases h with
    | tup h1 h2 => exact .tup (h1.mo m) (Reps.mo m ds _ h2)
  | .lst ds, _, h => by
    cases h with
    | lst h1 f h2 => exact .lst (m.keep _ _ h1 f) (m.not h1 f) (Reps.mo m ds _ h2)
  | .ref n, _, h => by
    cases h with
    | ref h1 => exact .ref (m.pre _ _ h1)
  | .scr xs, _, h => by
    cases h with
    | scr h1 =>
      rcases h1 with ⟨o, h1, f⟩ | h1
      · exact .scr (.inl ⟨o, m.keep _ _ h1 f, m.not h1 f⟩)
      · exact .scr (.inr h1)
theorem Reps.mo (m : Mo H F μ H' F' μ') : ∀ (ds : List Dat) (vs : List V), Reps K H F μ vs ds → Reps K H' F' μ' vs ds
  | [], _, h => by cases h; exact .nil
  | d :: ds, _, h => by
    cases h with
    | cons h1 h2 => exact .cons (Rep.mo m d _ h1) (Reps.mo m ds _ h2)
end
theorem Rep.mo' {d : Dat} {v : V} (h : Rep K H F μ v d) (m : Mo H F μ H' F' μ') : Rep K H' F' μ' v d := Rep.mo m d v h
theorem Reps.mo' {ds : List Dat} {vs : List V} (h : Reps K H F μ vs ds) (m : Mo H F μ H' F' μ') : Reps K H' F' μ' vs ds := Reps.mo m ds vs h
theorem Reps.length : ∀ {ds : List Dat} {vs : List V}, Reps K H F μ vs ds → vs.length = ds.length
  | [], _, h => by cases h; rfl
  | d :: ds, _, h => by
    cases h with
    | cons h1 h2 => simp [Reps.length h2]
theorem Reps.append : ∀ {ds es : List Dat} {vs ws : List V}, Reps K H F μ vs ds → Reps K H F μ ws es → Reps K H F μ (vs ++ ws) (ds ++ es)
  | [], _, _, _, h, h' => by cases h; exact h'
  | d :: ds, _, _, _, h, h' => by
    cases h with
    | cons h1 h2 => exact .cons h1 (Reps.append h2 h')
theorem Reps.get : ∀ {ds : List Dat} {vs : List V} {i : Nat} {v : V}, Reps K H F μ vs ds → vs[i]? = some v → ∃ d, ds[i]? = some d ∧ Rep K H F μ v d
  | [], _, _, _, h, e => by cases h; simp at e
  | d :: ds, _, 0, _, h, e => by
    cases h with
    | cons h1 h2 => simp at e; subst e; exact ⟨d, rfl, h1⟩
  | d :: ds, _, i + 1, _, h, e => by
    cases h with
    | cons h1 h2 =>
      obtain ⟨d', e', r⟩ := Reps.get (i := i) h2 (by simpa using e)
      exact ⟨d', by simpa using e', r⟩
theorem Reps.get' : ∀ {ds : List Dat} {vs : List V} {i : Nat} {d : Dat}, Reps K H F μ vs ds → ds[i]? = some d → ∃ v, vs[i]? = some v ∧ Rep K H F μ v d
  | [], _, _, _, h, e => by simp at e
  | d :: ds, _, 0, _, h, e => by
    cases h with
    | cons h1 h2 => simp at e; subst e; exact ⟨_, rfl, h1⟩
  | d :: ds, _, i + 1, _, h, e => by
    cases h with
    | cons h1 h2 =>
      obtain ⟨d', e', r⟩ := Reps.get' (i := i) h2 (by simpa using e)
      exact ⟨d', by simpa using e', r⟩
theorem Reps.take : ∀ {ds : List Dat} {vs : List V} (n : Nat), Reps K H F μ vs ds → Reps K H F μ (vs.take n) (ds.take n)
  | _, _, 0, _ => by simp; exact .nil
  | [], _, _ + 1, h => by cases h; exact .nil
  | d :: ds, _, n + 1, h => by
    cases h with
    | cons h1 h2 => exact .cons h1 (Reps.take n h2)
theorem Reps.drop : ∀ {ds : List Dat} {vs : List V} (n : Nat), Reps K H F μ vs ds → Reps K H F μ (vs.drop n) (ds.drop n)
  | _, _, 0, h => by simpa using h
  | [], _, _ + 1, h => by cases h; exact .nil
  | d :: ds, _, n + 1, h => by
    cases h with
    | cons h1 h2 => exact Reps.drop n h2
theorem Reps.set : ∀ {ds : List Dat} {vs : List V} {v : V} {d : Dat} (i : Nat), Reps K H F μ vs ds → Rep K H F μ v d → Reps K H F μ (vs.set i v) (ds.set i d)
  | [], _, _, _, _, h, _ => by cases h; exact .nil
  | _ :: ds, _, _, _, 0, h, r => by
    cases h with
    | cons h1 h2 => exact .cons r h2
  | _ :: ds, _, _, _, i + 1, h, r => by
    cases h with
    | cons h1 h2 => exact .cons h1 (Reps.set i h2 r)
theorem Reps.reverse : ∀ {ds : List Dat} {vs : List V}, Reps K H F μ vs ds → Reps K H F μ vs.reverse ds.reverse
  | [], _, h => by cases h; exact .nil
  | d :: ds, _, h => by
    cases h with
    | cons h1 h2 =>
      rw [List.reverse_cons, List.reverse_cons]
      exact Reps.append (Reps.reverse h2) (.cons h1 .nil)
theorem Reps.rep {ds : List Dat} {vs : List V} (h : Reps K H F μ vs ds) : ∀ k : Nat, Reps K H F μ (List.replicate k vs).flatten (List.replicate k ds).flatten
  | 0 => .nil
  | k + 1 => by
    rw [List.replicate_succ, List.replicate_succ, List.flatten_cons, List.flatten_cons]
    exact Reps.append h (Reps.rep h k)
end

/-! ### the store and the world -/
/-- what must not be leant on: the store's cells, and others' lists N -/
def Fo (μ : List Addr) (N : Addr → Prop) : Addr → Prop := fun a => a ∈ μ ∨ N a
section
variable (K : PySem.W.Frag)
def CellOk (H : Hp) (F : Addr → Prop) (μ : List Addr) (a : Addr) : Cell → Prop
  | .lst ds => ∃ vs, H a = some (.lst vs) ∧ Reps K H F μ vs ds
structure WOk (H : Hp) (N : Addr → Prop) (μ : List Addr) (st : Store) : Prop where
  len : μ.length = st.length
  nd : ∀ (i j : Nat) (a : Addr), μ[i]? = some a → μ[j]? = some a → i = j
  cell : ∀ (n : Nat) (a : Addr) (c : Cell), μ[n]? = some a → st[n]? = some c → CellOk K H (Fo μ N) μ a c
  sep : ∀ a ∈ μ, ¬ N a
  trk : ∀ a, N a → H a ≠ none
end
/-- what a call or an expression may do -/
structure Eff (H : Hp) (μ : List Addr) (H' : Hp) (μ' : List Addr) : Prop where
  keep : ∀ a o, H a = some o → a ∉ μ → H' a = some o
  pre : ∀ (n : Nat) (a : Addr), μ[n]? = some a → μ'[n]? = some a
  new : ∀ a ∈ μ', a ∈ μ ∨ H a = none
theorem Eff.refl {H : Hp} {μ : List Addr} : Eff H μ H μ := ⟨fun _ _ h _ => h, fun _ _ h => h, fun _ h => .inl h⟩
theorem mem_of_get {μ : List Addr} {n : Nat} {a : Addr} (h : μ[n]? = some a) : a ∈ μ := List.mem_of_getElem? h
theorem Eff.trans {H1 H2 H3 : Hp} {μ1 μ2 μ3 : List Addr} (a : Eff H1 μ1 H2 μ2) (b : Eff H2 μ2 H3 μ3) : Eff H1 μ1 H3 μ3 := by
  refine ⟨fun c o h f => b.keep c o (a.keep c o h f) fun q => ?_, fun n c h => b.pre n c (a.pre n c h), fun c h => ?_⟩
  · rcases a.new c q with q | q
    · exact f q
    · rw [h] at q; cases q
  · rcases b.new c h with q | q
    · exact a.new c q
    · by_cases f : c ∈ μ1
      · exact .inl f
      · cases e : H1 c with
        | none => exact .inr rfl
        | some o => rw [a.keep c o e f] at q; cases q
theorem Eff.mo {H H' : Hp} {μ μ' : List Addr} {N : Addr → Prop} (e : Eff H μ H' μ') : Mo H (Fo μ N) μ H' (Fo μ' N) μ' :=
  ⟨fun a o h f => e.keep a o h fun q => f (.inl q), fun a h => by
    rcases h with h | h
    · rcases e.new a h with q | q
      · exact .inl (.inl q)
      · exact .inr q
    · exact .inl (.inr h), e.pre⟩
section
variable {K : PySem.W.Frag} {H H' : Hp} {N : Addr → Prop} {μ μ' : List Addr} {st : Store}
/-- every cell's object is tracked -/
theorem WOk.there (w : WOk K H N μ st) {a : Addr} (h : Fo μ N a) : H a ≠ none := by
  rcases h with h | h
  · obtain ⟨n, e⟩ := List.getElem?_of_mem h
    have hn : n < st.length := by rw [← w.len]; exact (List.getElem?_eq_some_iff.mp e).1
    have c := w.cell n a _ e (List.getElem?_eq_getElem hn)
    cases hc : st[n] with
    | lst ds => rw [hc] at c; obtain ⟨vs, q, _⟩ := c; rw [q]; exact fun z => nomatch z
  · exact w.trk a h
/-- a new object at a free place that is laid -/
theorem eff_new {p : Addr} {o : HO} (hp : H p = none) : Eff H μ (upd H p o) μ :=
  ⟨fun a u h _ => by rw [upd_ne (ne_of_none h hp)]; exact h, fun _ _ h => h, fun _ h => .inl h⟩
theorem WOk.new (w : WOk K H N μ st) {p : Addr} {o : HO} (hp : H p = none) : WOk K (upd H p o) N μ st := by
  have e : Eff H μ (upd H p o) μ := eff_new hp
  refine ⟨w.len, w.nd, fun n a c h1 h2 => ?_, w.sep, fun a h => ?_⟩
  · have h := w.cell n a c h1 h2
    cases c with
    | lst ds =>
      obtain ⟨vs, q, r⟩ := h
      exact ⟨vs, by rw [upd_ne (ne_of_none q hp)]; exact q, r.mo' e.mo⟩
  · have := w.trk a h
    by_cases z : a = p
    · subst z; rw [upd_same]; exact fun q => nomatch q
    · rw [upd_ne z]; exact this
theorem WOk.free (w : WOk K H N μ st) {p : Addr} (hp : H p = none) : ¬ Fo μ N p := fun h => w.there h hp
theorem rep_newT {p : Addr} {vs : List V} {ds : List Dat} (w : WOk K H N μ st) (hp : H p = none) (r : Reps K H (Fo μ N) μ vs ds) : Rep K (upd H p (.tup vs)) (Fo μ N) μ (.ref p) (.tup ds) :=
  .tup (.inl ⟨upd_same, w.free hp⟩) (r.mo' (eff_new hp).mo)
theorem rep_newL {p : Addr} {vs : List V} {ds : List Dat} (w : WOk K H N μ st) (hp : H p = none) (r : Reps K H (Fo μ N) μ vs ds) : Rep K (upd H p (.lst vs)) (Fo μ N) μ (.ref p) (.lst ds) :=
  .lst upd_same (w.free hp) (r.mo' (eff_new hp).mo)
end
end Fw
end
-- Fw2
section
set_option Elab.async false
set_option linter.all false
set_option maxRecDepth 100000
set_option maxHeartbeats 4000000
/-! Fw2: the small language, and what it computes. -/
namespace Fw
open PySem PySem.Spec PyProof.Rows L2

structure Exc where
  cls : Str
  val : Dat

inductive Res (α : Type) where
  | ok (a : α) (st : Store)
  | exc (x : Exc) (st : Store)
  | err

abbrev M (α : Type) := Store → Res α
def mpure {α : Type} (a : α) : M α := fun st => .ok a st
def mbind {α β : Type} (m : M α) (f : α → M β) : M β := fun st => match m st with
  | .ok a s => f a s
  | .exc x s => .exc x s
  | .err => .err
def merr {α : Type} : M α := fun _ => .err
instance : Monad M where
  pure := mpure
  bind := mbind
def mo {α : Type} (o : Option α) : M α := fun st => match o with
  | some a => .ok a st
  | none => .err
/-- a reckoning that reads the store -/
def mr {α : Type} (o : Store → Option α) : M α := fun st => match o st with
  | some a => .ok a st
  | none => .err
/-- .. of no exception -/
def mnox {α : Type} (m : M α) : M α := fun st => match m st with
  | .ok a s => .ok a s
  | _ => .err

inductive Bi where
  | len | abs | int | str | list | tuple | sorted | sum | max | min | all | any
  deriving DecidableEq

mutual
inductive IT where
  | var (i : Nat)
  | tup (ts : ITs)
inductive ITs where
  | nil
  | cons (t : IT) (r : ITs)
end
mutual
inductive IE where
  | var (i : Nat)
  | int (i : Int) | str (x : Str) | bl (b : Bool) | non
  | glob (x : Str) (d : Dat)
  | bin (o : Operator) (a b : IE)
  | neg (a : IE)
  | cmp (o : CmpOp) (a b : IE)
  | chain (a : IE) (o : CmpOp) (b : IE) (o' : CmpOp) (c : IE)
  | bool (o : BoolOp) (es : IEs)
  | not_ (a : IE)
  | ife (c a b : IE)
  | call (f : Nat) (es : IEs)
  | bi (b : Bi) (es : IEs)
  | isi (e : IE) (t : String)
  | ix (a i : IE)
  | sl (a : IE) (lo hi : IO)
  | rev (a : IE)
  | tup (es : IEs) | lst (es : IEs) | newl (es : IEs)
  | comp (own : List Nat) (elt : IE) (t : IT) (it : II) (c : IEs)
  | sset (e : IE)
inductive IEs where
  | nil
  | cons (e : IE) (r : IEs)
inductive IO where
  | no
  | yes (e : IE)
inductive II where
  | seq (e : IE)
  | range1 (a : IE)
  | range2 (a b : IE)
  | zip (a b : IE)
  | enum (a : IE)
end
mutual
inductive IS where
  | asg (i : Nat) (e : IE)
  | asgO (i : Nat) (es : IEs)
  | unp (ts : ITs) (e : IE)
  | par (ts : ITs) (es : IEs)
  | ret (e : IE)
  | retn
  | ife (c : IE) (a b : ISs)
  | for_ (t : IT) (it : II) (b : ISs)
  | whil (c : IE) (b : ISs)
  | app (i : Nat) (e : IE)
  | setix (i : Nat) (k e : IE)
  | expr (e : IE)
  | raise
  | brk
  | cont
inductive ISs where
  | nil
  | cons (s : IS) (r : ISs)
  | frz (i : Nat) (r : ISs)
end

/-! ### operators on data -/
def seqOf (st : Store) : Dat → Option (List Dat)
  | .tup ds => some ds
  | .lst ds => some ds
  | .ref n => match st[n]? with
    | some (.lst ds) => some ds
    | none => none
  | _ => none
def lstOf (st : Store) : Dat → Option (List Dat)
  | .lst ds => some ds
  | .ref n => match st[n]? with
    | some (.lst ds) => some ds
    | none => none
  | _ => none
def intsOf : List Dat → Option (List Int)
  | [] => some []
  | .int i :: r => (intsOf r).map (i :: ·)
  | _ => none
def strsOf : List Dat → Option (List Str)
  | [] => some []
  | .str i :: r => (strsOf r).map (i :: ·)
  | _ => none
def blsOf : List Dat → Option (List Bool)
  | [] => some []
  | .bl i :: r => (blsOf r).map (i :: ·)
  | _ => none
mutual
def toP : Dat → PyData
  | .non => .none
  | .bl b => .bool b
  | .int i => .int i
  | .str x => .str x
  | .tup ds => .tuple (toPs ds)
  | .lst ds => .list (toPs ds)
  | .ref _ => .none
  | .scr _ => .none
def toPs : List Dat → List PyData
  | [] => []
  | d :: ds => toP d :: toPs ds
end
mutual
def noRef : Dat → Bool
  | .tup ds => noRefs ds
  | .lst ds => noRefs ds
  | .ref _ => false
  | .scr _ => false
  | _ => true
def noRefs : List Dat → Bool
  | [] => true
  | d :: ds => noRef d && noRefs ds
end
/-- == -/
def opEq (x y : Dat) : Option Bool := if noRef x && noRef y && SeqAt.shaped (toP x) && SeqAt.shaped (toP y) then some (PyData.eqv (toP x) (toP y)) else none
def flatD : Dat → Bool
  | .non => true
  | .bl _ => true
  | .int _ => true
  | .str _ => true
  | _ => false
/-- == of flat data -/
def eqF : Dat → Dat → Bool
  | .non, .non => true
  | .bl a, .bl b => a == b
  | .bl a, .int b => (if a then 1 else 0) == b
  | .int a, .bl b => a == (if b then 1 else 0)
  | .int a, .int b => a == b
  | .str a, .str b => a == b
  | _, _ => false
def inSeq (st : Store) (x y : Dat) : Option Bool := match seqOf st y with
  | some ds => if flatD x && ds.all flatD then some (ds.any fun z => eqF z x) else none
  | none => none
def opIn (st : Store) (x y : Dat) : Option Bool := match y with
  | .str j => match x with
    | .str i => some (!(Builtin.Str.occurrences j i 0 j.length 1).isEmpty)
    | _ => none
  | y => inSeq st x y
def opLt : Dat → Dat → Option Bool
  | .int i, .int j => some (decide (i < j))
  | .str i, .str j => some (decide (i.cps.toList < j.cps.toList))
  | _, _ => none
def opLtI : Dat → Dat → Option Bool
  | .int i, .int j => some (decide (i < j))
  | _, _ => none
def opLe : Dat → Dat → Option Bool
  | .int i, .int j => some (decide (i ≤ j))
  | _, _ => none
def isNon : Dat → Bool
  | .non => true
  | _ => false
def opIs (x y : Dat) : Option Bool := if isNon y then some (isNon x) else none
def opCmp (st : Store) (o : CmpOp) (x y : Dat) : Option Bool := match o with
  | .Eq => opEq x y
  | .NotEq => (opEq x y).map (!·)
  | .Lt => opLt x y
  | .LtE => opLe x y
  | .Gt => opLtI y x
  | .GtE => opLe y x
  | .In => opIn st x y
  | .NotIn => (opIn st x y).map (!·)
  | .Is => opIs x y
  | .IsNot => (opIs x y).map (!·)
def opAdd : Dat → Dat → Option Dat
  | .int i, .int j => some (.int (i + j))
  | .str i, .str j => if i.length + j.length ≤ sizeLine then some (.str (i ++ j)) else none
  | .tup a, .tup b => if a.length + b.length ≤ sizeLine then some (.tup (a ++ b)) else none
  | .lst a, .lst b => if a.length + b.length ≤ sizeLine then some (.lst (a ++ b)) else none
  | _, _ => none
def opSub : Dat → Dat → Option Dat
  | .int i, .int j => some (.int (i - j))
  | _, _ => none
def opMul : Dat → Dat → Option Dat
  | .int i, .int j => if (-(2 ^ 64) < i ∧ i < 2 ^ 64) ∨ (-(2 ^ 64) < j ∧ j < 2 ^ 64) then some (.int (i * j)) else none
  | .tup a, .int k => if a ≠ [] ∧ 1 ≤ k ∧ k * a.length ≤ 1000000 then some (.tup (List.replicate k.toNat a).flatten) else none
  | .str a, .int k => if 1 ≤ k ∧ k ≤ 1000000 ∧ k * a.length ≤ 1000000 then some (.str ⟨(List.replicate k.toNat a.cps.toList).flatten.toArray⟩) else none
  | _, _ => none
def opDiv : Dat → Dat → Option Dat
  | .int i, .int j => if j ≠ 0 ∧ j.natAbs < 1073741824 then some (.int (i.fdiv j)) else none
  | _, _ => none
def opMod : Dat → Dat → Option Dat
  | .int i, .int j => if j ≠ 0 then some (.int (i.fmod j)) else none
  | _, _ => none
def opPow : Dat → Dat → Option Dat
  | .int i, .int j => if 0 ≤ j ∧ j ≤ 1000000 ∧ i.natAbs < 2 ^ 64 then some (.int (i ^ j.toNat)) else none
  | _, _ => none
def opBin (o : Operator) (x y : Dat) : Option Dat := match o with
  | .Add => opAdd x y
  | .Sub => opSub x y
  | .Mult => opMul x y
  | .FloorDiv => opDiv x y
  | .Mod => opMod x y
  | .Pow => opPow x y
  | _ => none
def opIx (st : Store) (x i : Dat) : Option Dat := match i with
  | .int k => match x with
    | .str z => if z.length ≤ sizeLine then (atI z.cps.toList k).map fun c => .str ⟨#[c]⟩ else none
    | x => match seqOf st x with
      | some ds => atI ds k
      | none => none
  | _ => none
def cutD {α : Type} (xs : List α) (lo hi : Option Int) : List α := (xs.drop (HT.sIx xs.length 0 lo)).take (HT.sIx xs.length xs.length hi - HT.sIx xs.length 0 lo)
def opSl (st : Store) (x : Dat) (lo hi : Option Int) : Option Dat := match x with
  | .tup ds => some (.tup (cutD ds lo hi))
  | x => match lstOf st x with
    | some ds => some (.lst (cutD ds lo hi))
    | none => none
/-- insertion sort -/
def insI (i : Int) : List Int → List Int
  | [] => [i]
  | j :: r => if i ≤ j then i :: j :: r else j :: insI i r
def sortI : List Int → List Int
  | [] => []
  | i :: r => insI i (sortI r)
def leS (x y : Str) : Bool := !decide (y.cps.toList < x.cps.toList)
def insS (i : Str) : List Str → List Str
  | [] => [i]
  | j :: r => if leS i j then i :: j :: r else j :: insS i r
def sortS : List Str → List Str
  | [] => []
  | i :: r => insS i (sortS r)
def dedS : List Str → List Str
  | [] => []
  | i :: r => if i ∈ r then dedS r else i :: dedS r
def maxI : Int → List Int → Int
  | m, [] => m
  | m, i :: r => maxI (if m < i then i else m) r
def minI : Int → List Int → Int
  | m, [] => m
  | m, i :: r => minI (if i < m then i else m) r
def opBi (st : Store) (b : Bi) (xs : List Dat) : Option Dat := match b, xs with
  | .len, [.str z] => if z.length ≤ sizeLine then some (.int z.length) else none
  | .len, [x] => (seqOf st x).map fun ds => .int ds.length
  | .abs, [.int i] => some (.int (if i < 0 then -i else i))
  | .int, [.int i] => some (.int i)
  | .str, [.int i] => if i.natAbs.log2 < 1920 then some (.str (toString i)) else none
  | .list, [.scr xs] => some (.lst (xs.map Dat.int))
  | .list, [x] => (seqOf st x).map fun ds => .lst ds
  | .tuple, [x] => (seqOf st x).map fun ds => .tup ds
  | .sorted, [x] => match lstOf st x with
    | some ds => match intsOf ds with
      | some ns => some (.lst ((sortI ns).map Dat.int))
      | none => match strsOf ds with
        | some zs => if zs.length < 64 then some (.lst ((sortS zs).map Dat.str)) else none
        | none => none
    | none => none
  | .sum, [x] => match lstOf st x with
    | some ds => (intsOf ds).map fun ns => .int ns.sum
    | none => none
  | .max, [x] => match lstOf st x with
    | some ds => match intsOf ds with
      | some (n :: ns) => some (.int (maxI n ns))
      | _ => none
    | none => none
  | .min, [x] => match lstOf st x with
    | some ds => match intsOf ds with
      | some (n :: ns) => some (.int (minI n ns))
      | _ => none
    | none => none
  | .max, [.int i, .int j] => some (.int (if j > i then j else i))
  | .min, [.int i, .int j] => some (.int (if j < i then j else i))
  | .all, [x] => match lstOf st x with
    | some ds => (blsOf ds).map fun bs => .bl (bs.all id)
    | none => none
  | .any, [x] => match lstOf st x with
    | some ds => (blsOf ds).map fun bs => .bl (bs.any id)
    | none => none
  | _, _ => none
def tyOf : Dat → Option String
  | .non => some "NoneType"
  | .bl _ => some "bool"
  | .int _ => some "int"
  | .str _ => some "str"
  | .tup _ => some "tuple"
  | .lst _ => some "list"
  | .ref _ => none
  | .scr _ => none
/-- isinstance of such a built-in class -/
def opIsi (x : Dat) (t : String) : Option Bool := match tyOf x with
  | some u => kitB u t
  | none => none

/-! ### the frame -/
inductive Sl where
  | un
  | v (d : Dat)
  | o (ds : List Dat)
abbrev Env := List Sl
def wipeE (ρ : Env) : List Nat → Env
  | [] => ρ
  | v :: vs => (wipeE ρ vs).set v .un
mutual
def bindT : IT → Dat → Env → Option Env
  | .var i, d, ρ => some (ρ.set i (.v d))
  | .tup ts, .tup ds, ρ => bindTs ts ds ρ
  | .tup _, _, _ => none
def bindTs : ITs → List Dat → Env → Option Env
  | .nil, [], ρ => some ρ
  | .cons t r, d :: ds, ρ => match bindT t d ρ with
    | some ρ' => bindTs r ds ρ'
    | none => none
  | _, _, _ => none
end
/-- one after another; what is none is left out -/
def compL (f : Dat → M (Option Dat)) : List Dat → M (List Dat)
  | [] => mpure []
  | x :: xs => mbind (f x) fun o => mbind (compL f xs) fun r => mpure (match o with
    | some y => y :: r
    | none => r)
def asBl : Dat → Option Bool
  | .bl b => some b
  | _ => none
def asInt : Dat → Option Int
  | .int b => some b
  | _ => none
def zipD : List Dat → List Dat → List Dat
  | x :: xs, y :: ys => .tup [x, y] :: zipD xs ys
  | _, _ => []
def enumD : Nat → List Dat → List Dat
  | _, [] => []
  | n, x :: xs => .tup [.int (n : Nat), x] :: enumD (n + 1) xs
def rangeD (lo : Int) (n : Nat) : List Dat := (List.range n).map fun (i : Nat) => Dat.int (lo + (i : Int))
def okR (i : Int) : Bool := decide (-(2 ^ 62) ≤ i ∧ i < 2 ^ 62)
def itemsOf : Dat → Option (List Dat)
  | .str z => some (z.cps.toList.map fun c => .str ⟨#[c]⟩)
  | .tup ds => some ds
  | .lst ds => some ds
  | _ => none
def zipOf : Dat → Dat → Option (List Dat)
  | .tup ds, .tup es => some (zipD ds es)
  | .lst ds, .lst es => some (zipD ds es)
  | _, _ => none
def enumOf : Dat → Option (List Dat)
  | .tup ds => some (enumD 0 ds)
  | .lst ds => some (enumD 0 ds)
  | _ => none
def range1Of : Dat → Option (List Dat)
  | .int j => if okR j then some (rangeD 0 j.toNat) else none
  | _ => none
def range2Of : Dat → Dat → Option (List Dat)
  | .int i, .int j => if okR i && okR j then some (rangeD i (j - i).toNat) else none
  | _, _ => none

/-- a name of a list that is still the frame's own -/
def isOwn : IE → Env → Bool
  | .var i, ρ => match ρ[i]? with
    | some (.v _) => false
    | _ => true
  | _, _ => false
def sd (e : IE) (ρ : Env) (m : M Dat) : M Dat := fun st => if isOwn e ρ then .err else m st
section
variable (Φ : Nat → List Dat → M Dat)
mutual
def den : IE → Env → M Dat
  | .var i, ρ => match ρ[i]? with
    | some (.v d) => mpure d
    | some (.o ds) => mpure (.lst ds)
    | _ => merr
  | .int i, _ => mpure (.int i)
  | .str x, _ => mpure (.str x)
  | .bl b, _ => mpure (.bl b)
  | .non, _ => mpure .non
  | .glob _ d, _ => mpure d
  | .bin o a b, ρ => mbind (den a ρ) fun x => mbind (den b ρ) fun y => mo (opBin o x y)
  | .neg a, ρ => mbind (den a ρ) fun x => mo ((asInt x).map fun i => .int (-i))
  | .cmp o a b, ρ => mbind (den a ρ) fun x => mbind (den b ρ) fun y => mr fun st => (opCmp st o x y).map Dat.bl
  | .chain a o b o' c, ρ => mbind (den a ρ) fun x => mbind (den b ρ) fun y => mbind (mr fun st => opCmp st o x y) fun k =>
    if k then mbind (den c ρ) fun z => mr fun st => (opCmp st o' y z).map Dat.bl else mpure (.bl false)
  | .bool o es, ρ => denB o es ρ
  | .not_ a, ρ => mbind (den a ρ) fun x => mo ((asBl x).map fun b => .bl (!b))
  | .ife c a b, ρ => mbind (den c ρ) fun x => mbind (mo (asBl x)) fun k => if k then sd a ρ (den a ρ) else sd b ρ (den b ρ)
  | .call f es, ρ => mbind (denA es ρ) fun ds => Φ f ds
  | .bi b es, ρ => mbind (denW es ρ) fun ds => mr fun st => opBi st b ds
  | .isi e t, ρ => mbind (den e ρ) fun x => mo ((opIsi x t).map Dat.bl)
  | .ix a i, ρ => mbind (den a ρ) fun x => mbind (den i ρ) fun y => mr fun st => opIx st x y
  | .sl a lo hi, ρ => mbind (den a ρ) fun x => mbind (denO lo ρ) fun l => mbind (denO hi ρ) fun h => mr fun st => opSl st x l h
  | .rev a, ρ => mbind (den a ρ) fun x => mr fun st => match x with
    | .tup ds => some (.tup ds.reverse)
    | x => (lstOf st x).map fun ds => .lst ds.reverse
  | .tup es, ρ => mbind (denA es ρ) fun ds => mo (if ds.length ≤ sizeLine then some (.tup ds) else none)
  | .lst es, ρ => mbind (denA es ρ) fun ds => mo (if ds.length ≤ sizeLine then some (.lst ds) else none)
  | .newl es, ρ => mbind (denA es ρ) fun ds => fun st => if ds.length ≤ sizeLine then .ok (.ref st.length) (st ++ [.lst ds]) else .err
  | .comp own elt t it c, ρ => mbind (denI it ρ) fun xs => mnox (mbind (compL (fun x => match bindT t x (wipeE ρ own) with
    | some ρ' => mbind (denC c ρ') fun k => if k then mbind (sd elt ρ' (den elt ρ')) fun y => mpure (some y) else mpure none
    | none => merr) xs) fun ys => mo (if ys.length ≤ sizeLine then some (.lst ys) else none))
  | .sset e, ρ => mbind (den e ρ) fun x => mr fun st => match seqOf st x with
    | some ds => match strsOf ds with
      | some zs => if zs.length < 64 then some (.lst ((sortS (dedS zs)).map Dat.str)) else none
      | none => none
    | none => none
def denA : IEs → Env → M (List Dat)
  | .nil, _ => mpure []
  | .cons e r, ρ => mbind (sd e ρ (den e ρ)) fun d => mbind (denA r ρ) fun ds => mpure (d :: ds)
def denW : IEs → Env → M (List Dat)
  | .nil, _ => mpure []
  | .cons e r, ρ => mbind (den e ρ) fun d => mbind (denW r ρ) fun ds => mpure (d :: ds)
def denB : BoolOp → IEs → Env → M Dat
  | _, .nil, _ => merr
  | o, .cons e .nil, ρ => mbind (den e ρ) fun d => mo ((asBl d).map Dat.bl)
  | .And, .cons e r, ρ => mbind (den e ρ) fun d => mbind (mo (asBl d)) fun k => if k then denB .And r ρ else mpure (.bl false)
  | .Or, .cons e r, ρ => mbind (den e ρ) fun d => mbind (mo (asBl d)) fun k => if k then mpure (.bl true) else denB .Or r ρ
def denC : IEs → Env → M Bool
  | .nil, _ => mpure true
  | .cons e .nil, ρ => mbind (den e ρ) fun d => mo (asBl d)
  | .cons _ _, _ => merr
def denO : IO → Env → M (Option Int)
  | .no, _ => mpure none
  | .yes e, ρ => mbind (den e ρ) fun d => mo ((asInt d).map some)
def denI : II → Env → M (List Dat)
  | .seq e, ρ => mbind (sd e ρ (den e ρ)) fun x => mo (itemsOf x)
  | .range1 a, ρ => mbind (sd a ρ (den a ρ)) fun x => mo (range1Of x)
  | .range2 a b, ρ => mbind (sd a ρ (den a ρ)) fun x => mbind (sd b ρ (den b ρ)) fun y => mo (range2Of x y)
  | .zip a b, ρ => mbind (sd a ρ (den a ρ)) fun x => mbind (sd b ρ (den b ρ)) fun y => mo (zipOf x y)
  | .enum a, ρ => mbind (sd a ρ (den a ρ)) fun x => mo (enumOf x)
end
def dens (e : IE) (ρ : Env) : M Dat := sd e ρ (den Φ e ρ)

/-! ### statements -/
inductive Fl where
  | nx (ρ : Env)
  | ret (d : Dat)
  | brk (ρ : Env)
  | cont (ρ : Env)
def forL (body : Env → M Fl) (tg : Dat → Env → Option Env) : List Dat → Env → M Fl
  | [], ρ => mpure (.nx ρ)
  | x :: xs, ρ => match tg x ρ with
    | none => merr
    | some ρ' => mbind (body ρ') fun f => match f with
      | .nx ρ2 => forL body tg xs ρ2
      | .cont ρ2 => forL body tg xs ρ2
      | .brk ρ2 => mpure (.nx ρ2)
      | .ret d => mpure (.ret d)
def whileL (c : Env → M Bool) (body : Env → M Fl) : Nat → Env → M Fl
  | 0, _ => merr
  | n + 1, ρ => mbind (c ρ) fun k => if k then mbind (body ρ) fun f => match f with
      | .nx ρ2 => whileL c body n ρ2
      | .cont ρ2 => whileL c body n ρ2
      | .brk ρ2 => mpure (.nx ρ2)
      | .ret d => mpure (.ret d)
    else mpure (.nx ρ)
def slotRef (ρ : Env) (i : Nat) : Option Nat := match ρ[i]? with
  | some (.v (.ref n)) => some n
  | _ => none
def cellSet (n : Nat) (y d : Dat) (st : Store) : Option Store := match y with
  | .int k => match st[n]? with
    | some (.lst ds) => (ixN ds.length k).map fun j => st.set n (.lst (ds.set j d))
    | none => none
  | _ => none
def setCell (n : Nat) (y d : Dat) (ρ : Env) : M Fl := fun st => match cellSet n y d st with
  | some st' => .ok (.nx ρ) st'
  | none => .err
def appCell (n : Nat) (d : Dat) (ρ : Env) : M Fl := fun st => match st[n]? with
  | some (.lst ds) => if ds.length < sizeLine then .ok (.nx ρ) (st.set n (.lst (ds ++ [d]))) else .err
  | none => .err
def appV (d : Dat) (ρ : Env) : Dat → M Fl
  | .ref n => appCell n d ρ
  | _ => merr
def appSl (i : Nat) (d : Dat) (ρ : Env) : Option Sl → M Fl
  | some (.o ds) => if ds.length < sizeLine then mpure (.nx (ρ.set i (.o (ds ++ [d])))) else merr
  | some (.v x) => appV d ρ x
  | _ => merr
def unpD : Dat → Option (List Dat)
  | .tup ds => some ds
  | .lst ds => some ds
  | _ => none
variable (fuel : Nat)
mutual
def exe : IS → Env → M Fl
  | .asg i e, ρ => mbind (dens Φ e ρ) fun d => mpure (.nx (ρ.set i (.v d)))
  | .asgO i es, ρ => mbind (denA Φ es ρ) fun ds => if ds.length ≤ sizeLine ∧ i < ρ.length then mpure (.nx (ρ.set i (.o ds))) else merr
  | .unp ts e, ρ => mbind (dens Φ e ρ) fun d => match unpD d with
    | some ds => match bindTs ts ds ρ with
      | some ρ' => mpure (.nx ρ')
      | none => merr
    | none => merr
  | .par ts es, ρ => mbind (denA Φ es ρ) fun ds => match bindTs ts ds ρ with
    | some ρ' => mpure (.nx ρ')
    | none => merr
  | .ret e, ρ => mbind (dens Φ e ρ) fun d => mpure (.ret d)
  | .retn, _ => mpure (.ret .non)
  | .ife c a b, ρ => mbind (den Φ c ρ) fun x => mbind (mo (asBl x)) fun k => if k then exes a ρ else exes b ρ
  | .for_ t it b, ρ => mbind (denI Φ it ρ) fun xs => forL (fun ρ => exes b ρ) (bindT t) xs ρ
  | .whil c b, ρ => whileL (fun ρ => mbind (den Φ c ρ) fun x => mo (asBl x)) (fun ρ => exes b ρ) fuel ρ
  | .app i e, ρ => mbind (dens Φ e ρ) fun d => appSl i d ρ (ρ[i]?)
  | .setix i k e, ρ => mbind (dens Φ e ρ) fun d => mbind (den Φ k ρ) fun y => match slotRef ρ i with
    | some n => setCell n y d ρ
    | none => merr
  | .expr e, ρ => mbind (den Φ e ρ) fun _ => mpure (.nx ρ)
  | .raise, _ => merr
  | .brk, ρ => mpure (.brk ρ)
  | .cont, ρ => mpure (.cont ρ)
def exes : ISs → Env → M Fl
  | .nil, ρ => mpure (.nx ρ)
  | .cons s r, ρ => mbind (exe s ρ) fun f => match f with
    | .nx ρ' => exes r ρ'
    | f => mpure f
  | .frz i r, ρ => match ρ[i]? with
    | some (.o ds) => exes r (ρ.set i (.v (.lst ds)))
    | _ => merr
end
end
/-- a def: its name, how many parameters and names, its body -/
structure Fn where
  name : Str
  ps : List Str
  N : List Str
  body : ISs
def runFn (Φ : Nat → List Dat → M Dat) (fuel : Nat) (f : Fn) (ds : List Dat) : M Dat :=
  if ds.length = f.ps.length then mbind (exes Φ fuel f.body (ds.map Sl.v ++ List.replicate (f.N.length - ds.length) Sl.un)) fun r => match r with
    | .ret d => mpure d
    | .nx _ => mpure .non
    | _ => merr
  else merr
/-- the defs of a table, at a depth of calls -/
def Phi (tab : List Fn) (fuel : Nat) : Nat → Nat → List Dat → M Dat
  | 0, _, _ => merr
  | k + 1, f, ds => match tab[f]? with
    | some fn => runFn (Phi tab fuel k) fuel fn ds
    | none => merr
theorem den_test (Φ : Nat → List Dat → M Dat) (ρ : Env) : den Φ (.bin .Add (.int 1) (.int 2)) ρ [] = .ok (.int 3) [] := rfl
end Fw
end
-- Fw3
section
set_option Elab.async false
set_option linter.all false
set_option maxRecDepth 100000
set_option maxHeartbeats 4000000
/-! Fw3: readings by data; the operators by data. -/
namespace Fw
open PySem PySem.Spec PyProof.Rows L2

def post {α : Type} (r : Res α) (p : α → Store → Prop) : Prop := match r with
  | .ok a s => p a s
  | _ => False
theorem post_mono {α : Type} {r : Res α} {p q : α → Store → Prop} (h : post r p) (hq : ∀ a s, p a s → q a s) : post r q := by
  cases r with
  | ok a s => exact hq a s h
  | exc x s => exact h
  | err => exact h
theorem post_bind {α β : Type} {m : M α} {f : α → M β} {st : Store} {p : β → Store → Prop} (h : post (mbind m f st) p) : post (m st) fun a s => post (f a s) p := by
  unfold mbind at h
  cases e : m st with
  | ok a s => rw [e] at h; exact h
  | exc x s => rw [e] at h; exact h
  | err => rw [e] at h; exact h
theorem post_mr {α : Type} {o : Store → Option α} {st : Store} {p : α → Store → Prop} (h : post (mr o st) p) : ∃ a, o st = some a ∧ p a st := by
  unfold mr at h
  cases e : o st with
  | some a => rw [e] at h; exact ⟨a, rfl, h⟩
  | none => rw [e] at h; exact h.elim
theorem post_mo {α : Type} {o : Option α} {st : Store} {p : α → Store → Prop} (h : post (mo o st) p) : ∃ a, o = some a ∧ p a st := by
  unfold mo at h
  cases e : o with
  | some a => rw [e] at h; exact ⟨a, rfl, h⟩
  | none => rw [e] at h; exact h.elim
theorem post_nox {α : Type} {m : M α} {st : Store} {p : α → Store → Prop} (h : post (mnox m st) p) : post (m st) p := by
  unfold mnox at h
  cases e : m st with
  | ok a s => rw [e] at h; exact h
  | exc x s => rw [e] at h; exact h.elim
  | err => rw [e] at h; exact h.elim
theorem post_pure {α : Type} {a : α} {st : Store} {p : α → Store → Prop} (h : post (mpure a st) p) : p a st := h

theorem PE.imp {X : Cx} {e : Expr} {t t' : TE} (h : PE X e t) (hi : ∀ σ H Q, t' σ H Q → t σ H Q) : PE X e t' := ⟨fun pins s σ H Q I q => h.run pins s σ H Q I (hi σ H Q q)⟩
theorem PT.imp {X : Cx} {e : Expr} {t t' : TT} (h : PT X e t) (hi : ∀ σ H Q, t' σ H Q → t σ H Q) : PT X e t' := ⟨fun pins s σ H Q I q => h.run pins s σ H Q I (hi σ H Q q)⟩
theorem PW.imp {X : Cx} {e : Expr} {t t' : TT} (h : PW X e t) (hi : ∀ σ H Q, t' σ H Q → t σ H Q) : PW X e t' := ⟨fun wh pins s σ H Q I q => h.run wh pins s σ H Q I (hi σ H Q q)⟩
theorem PA.imp {X : Cx} {e : List Expr} {t t' : TA} (h : PA X e t) (hi : ∀ σ H Q, t' σ H Q → t σ H Q) : PA X e t' := ⟨fun pos pins s σ H Q I q => h.run pos pins s σ H Q I (hi σ H Q q)⟩
theorem PS.imp {X : Cx} {e : Stmt} {t t' : TS} (h : PS X e t) (hi : ∀ D σ H, t' D σ H → t D σ H) : PS X e t' := ⟨fun pins s σ H D I q => h.run pins s σ H D I (hi D σ H q)⟩
theorem PSs.imp {X : Cx} {e : List Stmt} {t t' : TS} (h : PSs X e t) (hi : ∀ D σ H, t' D σ H → t D σ H) : PSs X e t' := ⟨fun pins s σ H D I q => h.run pins s σ H D I (hi D σ H q)⟩
theorem PG.imp {X : Cx} {e : Expr} {t t' : TG} (h : PG X e t) (hi : ∀ v σ H Q, t' v σ H Q → t v σ H Q) : PG X e t' := ⟨fun pins s σ H v u Q I r q => h.run pins s σ H v u Q I r (hi v σ H Q q)⟩
theorem PGs.imp {X : Cx} {e : List Expr} {t t' : TGs} (h : PGs X e t) (hi : ∀ v σ H Q, t' v σ H Q → t v σ H Q) : PGs X e t' := ⟨fun pins s σ H v u Q I r q => h.run pins s σ H v u Q I r (hi v σ H Q q)⟩
theorem PO.imp {X : Cx} {e : Option Expr} {t t' : TO} (h : PO X e t) (hi : ∀ σ H Q, t' σ H Q → t σ H Q) : PO X e t' := ⟨fun pins s σ H Q I q => h.run pins s σ H Q I (hi σ H Q q)⟩
theorem PI.imp {X : Cx} {tg e : Expr} {t t' : TI} (h : PI X tg e t) (hi : ∀ σ H Q, t' σ H Q → t σ H Q) : PI X tg e t' := ⟨fun pins s σ H Q I q => h.run pins s σ H Q I (hi σ H Q q)⟩
theorem PI.or {X : Cx} {tg e : Expr} {t t' : TI} (h : PI X tg e t) (h' : PI X tg e t') : PI X tg e (fun σ H R => t σ H R ∨ t' σ H R) := ⟨fun pins s σ H Q I q => q.elim (h.run pins s σ H Q I) (h'.run pins s σ H Q I)⟩

section
variable (K : PySem.W.Frag)
def SlotE (H : Hp) (N : Addr → Prop) (μ : List Addr) (σ : L2.St) (i : Nat) : Sl → Prop
  | .un => True
  | .v d => ∃ v, σ[i]? = some (some v) ∧ Rep K H (Fo μ N) μ v d
  | .o ds => ∃ a vs, σ[i]? = some (some (.ref a)) ∧ N a ∧ H a = some (.lst vs) ∧ Reps K H (Fo μ N) μ vs ds
def ER (H : Hp) (N : Addr → Prop) (μ : List Addr) (σ : L2.St) (ρ : Env) : Prop := σ.length = ρ.length ∧ ∀ (i : Nat) (s : Sl), ρ[i]? = some s → SlotE K H N μ σ i s
/-- a value that may be a list of the frame's own -/
def RepW (H : Hp) (N : Addr → Prop) (μ : List Addr) (v : V) (d : Dat) : Prop :=
  Rep K H (Fo μ N) μ v d ∨ ∃ a vs ds, v = .ref a ∧ d = .lst ds ∧ N a ∧ H a = some (.lst vs) ∧ Reps K H (Fo μ N) μ vs ds
/-- behind a piece -/
def Beh (R : Hp → (Addr → Prop) → List Addr → V → Dat → Prop) (H : Hp) (N : Addr → Prop) (μ : List Addr) (Q : VK) : Dat → Store → Prop := fun d st' =>
  ∀ v H' μ', Eff H μ H' μ' → WOk K H' N μ' st' → R H' N μ' v d → Q v H'
def RepS (H : Hp) (N : Addr → Prop) (μ : List Addr) (v : V) (d : Dat) : Prop := Rep K H (Fo μ N) μ v d
def rd (R : Hp → (Addr → Prop) → List Addr → V → Dat → Prop) (f : Env → M Dat) : TE := fun σ H Q => ∃ N μ st ρ, WOk K H N μ st ∧ ER K H N μ σ ρ ∧ post (f ρ st) (Beh K R H N μ Q)
def BehA (R : Hp → (Addr → Prop) → List Addr → V → Dat → Prop) (H : Hp) (N : Addr → Prop) (μ : List Addr) (Q : List V → Hp → Prop) : List Dat → Store → Prop := fun ds st' =>
  ∀ vs H' μ', Eff H μ H' μ' → WOk K H' N μ' st' → Paired (R H' N μ') vs ds → Q vs H'
def rdA (R : Hp → (Addr → Prop) → List Addr → V → Dat → Prop) (f : Env → M (List Dat)) : TA := fun σ H Q => ∃ N μ st ρ, WOk K H N μ st ∧ ER K H N μ σ ρ ∧ post (f ρ st) (BehA K R H N μ Q)
def rdt (f : Env → M Bool) : TT := fun σ H Q => ∃ N μ st ρ, WOk K H N μ st ∧ ER K H N μ σ ρ ∧ post (f ρ st) fun b st' => ∀ H' μ', Eff H μ H' μ' → WOk K H' N μ' st' → Q b H'
def rdO (f : Env → M (Option Int)) : TO := fun σ H Q => ∃ N μ st ρ, WOk K H N μ st ∧ ER K H N μ σ ρ ∧ post (f ρ st) fun b st' => ∀ H' μ', Eff H μ H' μ' → WOk K H' N μ' st' → Q b H'
end
section
variable {K : PySem.W.Frag} {H H' : Hp} {N : Addr → Prop} {μ μ' : List Addr} {st st' : Store} {σ : L2.St} {ρ : Env}
theorem ER.mo {N' : Addr → Prop} (e : ER K H N μ σ ρ) (m : Mo H (Fo μ N) μ H' (Fo μ' N') μ') (kp : ∀ a o, N a → H a = some o → H' a = some o) (hn : ∀ a, N a → N' a) : ER K H' N' μ' σ ρ := ⟨e.1, fun i s h => by
  have q := e.2 i s h
  cases s with
  | un => exact True.intro
  | v d =>
    obtain ⟨v, q1, q2⟩ := q
    exact ⟨v, q1, q2.mo' m⟩
  | o ds =>
    obtain ⟨a, vs, q1, q2, q3, q4⟩ := q
    exact ⟨a, vs, q1, hn _ q2, kp _ _ q2 q3, q4.mo' m⟩⟩
theorem ER.eff (e : ER K H N μ σ ρ) (w : WOk K H N μ st) (f : Eff H μ H' μ') : ER K H' N μ' σ ρ := ER.mo e f.mo (fun a o n h => f.keep _ _ h fun z => w.sep _ z n) fun _ h => h
theorem RepW.eff {v : V} {d : Dat} (h : RepW K H N μ v d) (w : WOk K H N μ st) (f : Eff H μ H' μ') : RepW K H' N μ' v d := by
  rcases h with h | ⟨a, vs, ds, q1, q2, q3, q4, q5⟩
  · exact .inl (h.mo' f.mo)
  · exact .inr ⟨a, vs, ds, q1, q2, q3, f.keep _ _ q4 fun z => w.sep _ z q3, q5.mo' f.mo⟩
theorem RepS.w {v : V} {d : Dat} (h : RepS K H N μ v d) : RepW K H N μ v d := .inl h
theorem paired_eff {vs : List V} {ds : List Dat} (h : Paired (RepW K H N μ) vs ds) (w : WOk K H N μ st) (f : Eff H μ H' μ') : Paired (RepW K H' N μ') vs ds := L2.Paired.mapP h fun _ _ q => q.eff w f
theorem paired_reps : ∀ {vs : List V} {ds : List Dat}, Paired (RepS K H N μ) vs ds → Reps K H (Fo μ N) μ vs ds
  | _, _, .nil => .nil
  | _, _, .cons r t => .cons r (paired_reps t)
theorem Beh.eff {R : Hp → (Addr → Prop) → List Addr → V → Dat → Prop} {Q : VK} {d : Dat} {s : Store} (h : Beh K R H N μ Q d s) (f : Eff H μ H' μ') : Beh K R H' N μ' Q d s := fun v H2 μ2 e w r => h v H2 μ2 (f.trans e) w r
theorem Beh.mono {R R' : Hp → (Addr → Prop) → List Addr → V → Dat → Prop} {Q : VK} {d : Dat} {s : Store} (h : Beh K R H N μ Q d s) (hr : ∀ H μ v d, R' H N μ v d → R H N μ v d) : Beh K R' H N μ Q d s := fun v H2 μ2 e w r => h v H2 μ2 e w (hr _ _ _ _ r)

/-- what a list-like datum is -/
theorem seq_of {v : V} {d : Dat} {ds : List Dat} (w : WOk K H N μ st) (r : RepW K H N μ v d) (h : seqOf st d = some ds) : ∃ a vs, v = .ref a ∧ (SqL K H a vs ∨ SqT K H a vs) ∧ Reps K H (Fo μ N) μ vs ds := by
  rcases r with r | ⟨a, vs, ds', rfl, rfl, q3, q4, q5⟩
  · cases r with
    | tup h1 h2 =>
      cases (show some _ = some ds from h)
      exact ⟨_, _, rfl, .inr h1.sq, h2⟩
    | lst h1 f h2 =>
      cases (show some _ = some ds from h)
      exact ⟨_, _, rfl, .inl (SqL.of h1), h2⟩
    | @ref n a h1 =>
      have hn : n < st.length := by rw [← w.len]; exact (List.getElem?_eq_some_iff.mp h1).1
      have c := w.cell n a _ h1 (List.getElem?_eq_getElem hn)
      have h' : (match st[n]? with | some (.lst ds) => some ds | none => none) = some ds := h
      rw [List.getElem?_eq_getElem hn] at h'
      cases hc : st[n] with
      | lst es =>
        rw [hc] at c h'
        obtain ⟨vs, q, r⟩ := c
        cases (show some es = some ds from h')
        exact ⟨a, vs, rfl, .inl (SqL.of q), r⟩
    | _ => exact nomatch (show none = some ds from h)
  · cases (show some _ = some ds from h)
    exact ⟨a, vs, rfl, .inl (SqL.of q4), q5⟩
theorem lst_of {v : V} {d : Dat} {ds : List Dat} (w : WOk K H N μ st) (r : RepW K H N μ v d) (h : lstOf st d = some ds) : ∃ a vs, v = .ref a ∧ H a = some (.lst vs) ∧ Reps K H (Fo μ N) μ vs ds := by
  rcases r with r | ⟨a, vs, ds', rfl, rfl, q3, q4, q5⟩
  · cases r with
    | lst h1 f h2 =>
      cases (show some _ = some ds from h)
      exact ⟨_, _, rfl, h1, h2⟩
    | @ref n a h1 =>
      have hn : n < st.length := by rw [← w.len]; exact (List.getElem?_eq_some_iff.mp h1).1
      have c := w.cell n a _ h1 (List.getElem?_eq_getElem hn)
      have h' : (match st[n]? with | some (.lst ds) => some ds | none => none) = some ds := h
      rw [List.getElem?_eq_getElem hn] at h'
      cases hc : st[n] with
      | lst es =>
        rw [hc] at c h'
        obtain ⟨vs, q, r⟩ := c
        cases (show some es = some ds from h')
        exact ⟨a, vs, rfl, q, r⟩
    | _ => exact nomatch (show none = some ds from h)
  · cases (show some _ = some ds from h)
    exact ⟨a, vs, rfl, q4, q5⟩
theorem ints_of {F : Addr → Prop} : ∀ {ds : List Dat} {vs : List V} {ns : List Int}, Reps K H F μ vs ds → intsOf ds = some ns → vs = ns.map V.int ∧ ds = ns.map Dat.int
  | [], _, ns, h, e => by
    cases h
    cases (show some [] = some ns from e)
    exact ⟨rfl, rfl⟩
  | d :: ds, _, ns, h, e => by
    cases h with
    | cons h1 h2 =>
      cases h1 with
      | int i =>
        have e' : (intsOf ds).map (i :: ·) = some ns := e
        cases q : intsOf ds with
        | none => rw [q] at e'; cases e'
        | some ms =>
          rw [q] at e'
          cases e'
          obtain ⟨a, b⟩ := ints_of h2 q
          exact ⟨by rw [a]; rfl, by rw [b]; rfl⟩
      | _ => exact nomatch (show none = some ns from e)
theorem strs_of {F : Addr → Prop} : ∀ {ds : List Dat} {vs : List V} {ns : List Str}, Reps K H F μ vs ds → strsOf ds = some ns → vs = ns.map V.str ∧ ds = ns.map Dat.str
  | [], _, ns, h, e => by
    cases h
    cases (show some [] = some ns from e)
    exact ⟨rfl, rfl⟩
  | d :: ds, _, ns, h, e => by
    cases h with
    | cons h1 h2 =>
      cases h1 with
      | str i =>
        have e' : (strsOf ds).map (i :: ·) = some ns := e
        cases q : strsOf ds with
        | none => rw [q] at e'; cases e'
        | some ms =>
          rw [q] at e'
          cases e'
          obtain ⟨a, b⟩ := strs_of h2 q
          exact ⟨by rw [a]; rfl, by rw [b]; rfl⟩
      | _ => exact nomatch (show none = some ns from e)
theorem bls_of {F : Addr → Prop} : ∀ {ds : List Dat} {vs : List V} {ns : List Bool}, Reps K H F μ vs ds → blsOf ds = some ns → vs = ns.map V.bl ∧ ds = ns.map Dat.bl
  | [], _, ns, h, e => by
    cases h
    cases (show some [] = some ns from e)
    exact ⟨rfl, rfl⟩
  | d :: ds, _, ns, h, e => by
    cases h with
    | cons h1 h2 =>
      cases h1 with
      | bl i =>
        have e' : (blsOf ds).map (i :: ·) = some ns := e
        cases q : blsOf ds with
        | none => rw [q] at e'; cases e'
        | some ms =>
          rw [q] at e'
          cases e'
          obtain ⟨a, b⟩ := bls_of h2 q
          exact ⟨by rw [a]; rfl, by rw [b]; rfl⟩
      | _ => exact nomatch (show none = some ns from e)
theorem reps_ints {F : Addr → Prop} : ∀ ns : List Int, Reps K H F μ (ns.map V.int) (ns.map Dat.int)
  | [] => .nil
  | n :: ns => .cons (.int n) (reps_ints ns)
theorem reps_strs {F : Addr → Prop} : ∀ ns : List Str, Reps K H F μ (ns.map V.str) (ns.map Dat.str)
  | [] => .nil
  | n :: ns => .cons (.str n) (reps_strs ns)
mutual
theorem Rep.dp {F : Addr → Prop} : ∀ (d : Dat) (v : V), Rep K H F μ v d → noRef d = true → Dp K H v (toP d)
  | .non, _, h, _ => by cases h; exact .non
  | .bl _, _, h, _ => by cases h; exact .bl _
  | .int _, _, h, _ => by cases h; exact .int _
  | .str _, _, h, _ => by cases h; exact .str _
  | .tup ds, _, h, n => by
    cases h with
    | tup h1 h2 => exact .tup h1.sq (Reps.dp ds _ h2 n)
  | .lst ds, _, h, n => by
    cases h with
    | lst h1 f h2 => exact .lst (SqL.of h1) (Reps.dp ds _ h2 n)
  | .ref _, _, _, n => nomatch n
  | .scr _, _, _, n => nomatch n
theorem Reps.dp {F : Addr → Prop} : ∀ (ds : List Dat) (vs : List V), Reps K H F μ vs ds → noRefs ds = true → DpAll K H vs (toPs ds)
  | [], _, h, _ => by cases h; exact .nil
  | d :: ds, _, h, n => by
    cases h with
    | cons h1 h2 =>
      have n' : (noRef d && noRefs ds) = true := n
      obtain ⟨n1, n2⟩ := Bool.and_eq_true_iff.mp n'
      exact .cons (Rep.dp d _ h1 n1) (Reps.dp ds _ h2 n2)
end
theorem RepW.dp {v : V} {d : Dat} (h : RepW K H N μ v d) (n : noRef d = true) : Dp K H v (toP d) := by
  rcases h with h | ⟨a, vs, ds', rfl, rfl, q3, q4, q5⟩
  · exact Rep.dp d v h n
  · exact .lst (SqL.of q4) (Reps.dp ds' vs q5 n)
theorem repW_int {v : V} {i : Int} (h : RepW K H N μ v (.int i)) : v = .int i := by
  rcases h with h | ⟨a, vs, ds', _, z, _⟩
  · cases h; rfl
  · cases z
theorem repW_str {v : V} {i : Str} (h : RepW K H N μ v (.str i)) : v = .str i := by
  rcases h with h | ⟨a, vs, ds', _, z, _⟩
  · cases h; rfl
  · cases z
theorem repW_bl {v : V} {i : Bool} (h : RepW K H N μ v (.bl i)) : v = .bl i := by
  rcases h with h | ⟨a, vs, ds', _, z, _⟩
  · cases h; rfl
  · cases z
theorem repW_non {v : V} (h : RepW K H N μ v .non) : v = .non := by
  rcases h with h | ⟨a, vs, ds', _, z, _⟩
  · cases h; rfl
  · cases z
theorem repW_tup {v : V} {ds : List Dat} (h : RepW K H N μ v (.tup ds)) : ∃ a vs, v = .ref a ∧ TupAt K H (Fo μ N) a vs ∧ Reps K H (Fo μ N) μ vs ds := by
  rcases h with h | ⟨a, vs, ds', _, z, _⟩
  · cases h with
    | tup h1 h2 => exact ⟨_, _, rfl, h1, h2⟩
  · cases z
theorem repW_lst {v : V} {ds : List Dat} (w : WOk K H N μ st) (h : RepW K H N μ v (.lst ds)) : ∃ a vs, v = .ref a ∧ H a = some (.lst vs) ∧ Reps K H (Fo μ N) μ vs ds := lst_of w h rfl

/-! behind an operator: nothing laid, or one new object -/
theorem beh_same {Q : VK} {d : Dat} {v : V} (q : Beh K (RepS K) H N μ Q d st) (w : WOk K H N μ st) (r : Rep K H (Fo μ N) μ v d) : Q v H := q v H μ Eff.refl w r
theorem beh_tup {Q : VK} {ds : List Dat} {vs : List V} (q : Beh K (RepS K) H N μ Q (.tup ds) st) (w : WOk K H N μ st) (r : Reps K H (Fo μ N) μ vs ds) : ∀ p, H p = none → Q (.ref p) (upd H p (.tup vs)) := fun p hp =>
  q _ _ μ (eff_new hp) (w.new hp) (rep_newT w hp r)
theorem beh_lst {Q : VK} {ds : List Dat} {vs : List V} (q : Beh K (RepS K) H N μ Q (.lst ds) st) (w : WOk K H N μ st) (r : Reps K H (Fo μ N) μ vs ds) : ∀ p, H p = none → Q (.ref p) (upd H p (.lst vs)) := fun p hp =>
  q _ _ μ (eff_new hp) (w.new hp) (rep_newL w hp r)
end
/-- an operator's reading follows from the datum's -/
def Imp2 (K : PySem.W.Frag) (r : R2) (g : Store → Dat → Dat → Option Dat) : Prop := ∀ (N : Addr → Prop) (μ : List Addr) (st : Store) (H : Hp) (v u : V) (x y d : Dat) (Q : VK), WOk K H N μ st → RepW K H N μ v x → RepW K H N μ u y → g st x y = some d →
  Beh K (RepS K) H N μ Q d st → r v u H Q
section
variable {X : Cx} {K : PySem.W.Frag}
theorem repW_num {K : PySem.W.Frag} {H : Hp} {N : Addr → Prop} {μ : List Addr} {st : Store} {Q : VK} {i : Int} (w : WOk K H N μ st) (q : Beh K (RepS K) H N μ Q (.int i) st) : Q (.int i) H := beh_same q w (.int i)

def rAddD (K : PySem.W.Frag) : R2 := fun x y H Q => rI0 (fun i j => .int (i + j)) x y H Q ∨ (∃ i j, x = .str i ∧ y = .str j ∧ i.length + j.length ≤ sizeLine ∧ Q (.str (i ++ j)) H) ∨ rCatA K x y H Q ∨ rCat x y H Q
theorem op_addD : OpR X (binaryOp .Add) (rAddD X.K) := op_add.or (op_add_str.or (op_catA.or op_cat))
theorem imp_add : Imp2 K (rAddD K) (fun _ x y => opAdd x y) := by
  intro N μ st H v u x y d Q w rx ry e q
  cases x <;> cases y <;> first | (cases e; done) | skip
  · cases e; exact .inl ⟨_, _, repW_int rx, repW_int ry, beh_same q w (.int _)⟩
  · simp only [opAdd] at e
    split at e
    · cases e; exact .inr (.inl ⟨_, _, repW_str rx, repW_str ry, ‹_›, beh_same q w (.str _)⟩)
    · cases e
  · simp only [opAdd] at e
    split at e
    · cases e
      obtain ⟨a, vs, rfl, h1, h2⟩ := repW_tup rx
      obtain ⟨b, us, rfl, h3, h4⟩ := repW_tup ry
      refine .inr (.inr (.inl ⟨a, b, vs, us, rfl, rfl, h1.sq, h3.sq, by rw [h2.length, h4.length]; assumption, fun z => ?_, fun _ z => ?_, fun _ _ => beh_tup q w (h2.append h4)⟩))
      · subst z
        cases h2
        exact beh_same q w (.tup h3 h4)
      · subst z
        cases h4
        rw [List.append_nil] at q
        exact beh_same q w (.tup h1 h2)
    · cases e
  · simp only [opAdd] at e
    split at e
    · cases e
      obtain ⟨a, vs, rfl, h1, h2⟩ := repW_lst w rx
      obtain ⟨b, us, rfl, h3, h4⟩ := repW_lst w ry
      exact .inr (.inr (.inr ⟨a, b, vs, us, rfl, rfl, h1, h3, by rw [h2.length, h4.length]; assumption, beh_lst q w (h2.append h4)⟩))
    · cases e
theorem imp_sub : Imp2 K (rI0 fun i j => .int (i - j)) (fun _ x y => opSub x y) := by
  intro N μ st H v u x y d Q w rx ry e q
  cases x <;> cases y <;> first | (cases e; done) | skip
  · cases e; exact ⟨_, _, repW_int rx, repW_int ry, beh_same q w (.int _)⟩
theorem imp_div : Imp2 K (rI CDivN fun i j => .int (i.fdiv j)) (fun _ x y => opDiv x y) := by
  intro N μ st H v u x y d Q w rx ry e q
  cases x <;> cases y <;> first | (cases e; done) | skip
  · simp only [opDiv] at e
    split at e
    · cases e; exact ⟨_, _, repW_int rx, repW_int ry, ‹_›, beh_same q w (.int _)⟩
    · cases e
theorem imp_mod : Imp2 K (rI (fun _ j => j ≠ 0) fun i j => .int (i.fmod j)) (fun _ x y => opMod x y) := by
  intro N μ st H v u x y d Q w rx ry e q
  cases x <;> cases y <;> first | (cases e; done) | skip
  · simp only [opMod] at e
    split at e
    · cases e; exact ⟨_, _, repW_int rx, repW_int ry, ‹_›, beh_same q w (.int _)⟩
    · cases e
theorem imp_pow : Imp2 K (rI CPow fun i j => .int (i ^ j.toNat)) (fun _ x y => opPow x y) := by
  intro N μ st H v u x y d Q w rx ry e q
  cases x <;> cases y <;> first | (cases e; done) | skip
  · simp only [opPow] at e
    split at e
    · cases e; exact ⟨_, _, repW_int rx, repW_int ry, ‹_›, beh_same q w (.int _)⟩
    · cases e
/-! tuple * int -/
theorem tuple_mul1 (l : Addr) (items : Array Value) (n : Nat) (dd : Option Addr) (sl : Array (Option Value)) (x : Int) (u : Tok) (c0 : (decide (x < -(2 ^ 63)) || decide (x ≥ 2 ^ 63)) = false) (c1 : (items.isEmpty || x == 1) = true) :
    Meets (Builtin.«tuple.__mul__» ⟨[.ref l, .int x u], []⟩) (fun _ R s => s.heap.get? l = some { cls := .type "tuple", dict := dd, data := .seq items n, slots := sl } ∧
      R (.ok (.ret (Value.ref l))) s) :=
  .of_wp fun prog w A R s h => by
    obtain ⟨hp, g, d, tk, os⟩ := s
    obtain ⟨hl, h⟩ := h
    have f1 := AutoSeq1.idx_int
    wp_walk using wpAny_loadPart' hl
    repeat (first
      | (refine wpAny_ite_false (decide_eq_false (by rw [c0]; exact Bool.false_ne_true)) ?_; wp_walk using wpAny_loadPart' hl)
      | (refine wpAny_ite_true (decide_eq_true (by rw [c1])) ?_; wp_walk using wpAny_loadPart' hl))
    exact ⟨_, rfl, h⟩
def rRepT2 (K : PySem.W.Frag) : R2 := fun x y H Q => ∃ l k xs, x = .ref l ∧ y = .int k ∧ SqT K H l xs ∧ xs ≠ [] ∧ 1 ≤ k ∧ k * xs.length ≤ 1000000 ∧ (k = 1 → Q (.ref l) H) ∧ (k ≠ 1 → ∀ p, H p = none → Q (.ref p) (upd H p (.tup (List.replicate k.toNat xs).flatten)))
theorem op_repT2 : OpR X (binaryOp .Mult) (rRepT2 X.K) := by
  intro pins s σ H x y v u Q I rx ry h
  obtain ⟨l, k, xs, rfl, rfl, hT, hne, h1, hz, q1, q⟩ := h
  cases rx
  obtain ⟨t, rfl⟩ := ry
  obtain ⟨its, r, ⟨⟨cls, dd, data, sl⟩, ho, hc, n, hd⟩, hs⟩ := I.tuple hT
  simp only at hc hd
  subst hc hd
  have hle : its.length = xs.length := r.length.symm
  have hpos : 0 < xs.length := List.length_pos_iff.mpr hne
  have hn : its ≠ [] := fun e => hne (by
    rw [e] at hle
    exact List.eq_nil_of_length_eq_zero hle.symm)
  have hi : its.toArray.isEmpty = false := by
    cases its with
    | nil => exact absurd rfl hn
    | cons a b => rfl
  have hsz0 : its.toArray.size = xs.length := by rw [List.size_toArray, hle]
  have hk : k ≤ 1000000 := by
    have a1 : k * 1 ≤ k * (xs.length : Int) := Int.mul_le_mul_of_nonneg_left (by omega) (by omega)
    omega
  have hm : ((its.toArray.size : Nat) : Int) * k ≤ 1000000 := by
    rw [hsz0, Int.mul_comm]
    exact hz
  have c0 : (decide (k < -(2 ^ 63)) || decide (k ≥ 2 ^ 63)) = false := by
    rw [decide_eq_false (by omega), decide_eq_false (by omega)] <;> rfl
  refine wpAny_binaryOp_repeat_ref (T := "tuple") (U := "int") (by decide) ⟨_, ho, rfl⟩ (fun s' => typeIs_int s' k t) noFill_tuple_mul F.fills_int_mul F.slot_int_rmul repeat_tuple F.slot_int_index.lookup
    (call_meets F.slot_int_rmul (typeIs_int s k t) F.entry_int_rmul (F.args_int_rmul_2 _ _) (int_rmul_tuple k t l its.toArray n dd sl) ⟨ho, rfl, ⟨_, ho, rfl⟩, ?_⟩)
  by_cases hk1 : k = 1
  · have c1 : (its.toArray.isEmpty || k == 1) = true := by rw [hk1]; simp
    exact call_meets F.slot_tuple_mul ⟨_, ho, rfl⟩ F.entry_tuple_mul (F.args_tuple_mul_2 _ _) (tuple_mul1 l its.toArray n dd sl k t c0 c1) ⟨ho, ⟨.ref l, H, I, rfl, q1 hk1⟩⟩
  · have flen : (List.replicate k.toNat its).flatten.length ≤ sizeLine := by
      rw [PyProof.Rows.lm_len_rep_flat, hle, sizeLine_eq]
      have a1 : ((k.toNat * xs.length : Nat) : Int) ≤ 1000000 := by
        rw [Int.natCast_mul, Int.toNat_of_nonneg (by omega)]
        exact hz
      omega
    have c1 : (its.toArray.isEmpty || k == 1) = false := by
      rw [hi, Bool.false_or]
      exact beq_eq_false_iff_ne.mpr hk1
    have c2 : (decide (k ≤ 0) || its.toArray.isEmpty) = false := by
      rw [hi, Bool.or_false]
      exact decide_eq_false (by omega)
    have c4 : Builtin.Tuple.tupleTooMany (((its.toArray.size : Nat) : Int) * k) = false := by
      unfold Builtin.Tuple.tupleTooMany
      rw [sizeLine_eq]
      exact decide_eq_false (by omega)
    refine call_meets F.slot_tuple_mul ⟨_, ho, rfl⟩ F.entry_tuple_mul (F.args_tuple_mul_2 _ _) (tuple_mulW l its.toArray n dd sl k t c0 c1 c2 (by omega) c4 (by rw [size_rep, List.size_toArray]; exact flen)) ⟨ho, ?_⟩
    rw [size_rep]
    have hrv : Vals (List.replicate k.toNat xs).flatten (List.replicate k.toNat its).flatten := r.rep k.toNat
    have hlz : (List.replicate k.toNat xs).flatten.length ≤ sizeLine := by rw [hrv.length]; exact flen
    refine ⟨.ref s.heap.objs.size, _, I.laid (t' := s.toks) (fun b o e => Heap.get?_push_of_some _ e) (Nat.le_refl _) (o := .tup (List.replicate k.toNat xs).flatten) ⟨hlz, _, hrv, ?_⟩, rfl, q hk1 _ I.fresh⟩
    exact ⟨_, Heap.get?_push_size _ rfl, rfl, 0, rfl⟩
theorem op_repS : OpR X (binaryOp .Mult) (fun x y H Q => ∃ z k, x = .str z ∧ y = .int k ∧ 1 ≤ k ∧ k ≤ 1000000 ∧ k * z.length ≤ 1000000 ∧ Q (.str ⟨(List.replicate k.toNat z.cps.toList).flatten.toArray⟩) H) := by
  intro pins s σ H x y v u Q I rx ry h
  obtain ⟨z, k, rfl, rfl, h1, hk, hz, q⟩ := h
  obtain ⟨t, rfl⟩ := rx
  obtain ⟨t', rfl⟩ := ry
  have hl : z.length = z.cps.toList.length := by simp [Str.length]
  have key : z.length * k.toNat ≤ 1000000 := by
    have a1 : ((z.length * k.toNat : Nat) : Int) ≤ 1000000 := by
      rw [Int.natCast_mul, Int.toNat_of_nonneg (by omega), Int.mul_comm]
      exact hz
    omega
  by_cases he : z.length = 0
  · have e0 : z.cps.toList = [] := List.eq_nil_of_length_eq_zero (by rw [← hl]; exact he)
    have e1 : (⟨(List.replicate k.toNat z.cps.toList).flatten.toArray⟩ : Str) = z := by
      rw [e0, List.flatten_replicate_nil]
      obtain ⟨⟨l⟩⟩ := z
      simp at e0
      rw [e0]
    rw [e1] at q
    refine P.mul_str (by rw [decide_eq_false (by omega), decide_eq_false (by omega)] <;> rfl) (fun _ hh => absurd hh (by simp [he])) (fun _ hh => absurd hh (by simp [he])) ?_
    rw [if_neg (by omega), if_pos (by simp [he])]
    exact ⟨.str _, H, I, ⟨_, rfl⟩, q⟩
  · by_cases h1' : k = 1
    · subst h1'
      have e1 : (⟨(List.replicate (1 : Int).toNat z.cps.toList).flatten.toArray⟩ : Str) = z := by
        obtain ⟨⟨l⟩⟩ := z
        simp
      rw [e1] at q
      refine P.mul_str (by decide) (fun _ hh => absurd hh (by simp)) (fun _ hh => absurd hh (by simp)) ?_
      rw [if_neg (by decide), if_pos (by simp)]
      exact ⟨.str _, H, I, ⟨_, rfl⟩, q⟩
    · have c : (k == 1 || z.length == 0) = false := by simp [h1', he]
      refine P.mul_str (by rw [decide_eq_false (by omega), decide_eq_false (by omega)] <;> rfl) (fun _ _ => ?_) (fun _ _ => ?_) ?_
      · have a1 : (z.length : Int) * k ≤ 1000000 := by rw [Int.mul_comm]; exact hz
        have a2 : (z.length : Int) ≤ (2 ^ 63 - 1) / k := (Int.le_ediv_iff_mul_le (by omega)).mpr (by omega)
        omega
      · unfold Builtin.Str.tooLong
        rw [sizeLine_eq]
        exact decide_eq_false (by omega)
      · rw [if_neg (by omega), if_neg (by rw [c]; exact Bool.false_ne_true)]
        have e2 : (List.replicate k.toNat z.cps).foldl (fun x1 x2 => x1 ++ x2) #[] = (List.replicate k.toNat z.cps.toList).flatten.toArray := by
          have hg : ∀ (m : Nat) (acc : Array Nat), (List.replicate m z.cps).foldl (fun x1 x2 => x1 ++ x2) acc = acc ++ (List.replicate m z.cps.toList).flatten.toArray := by
            intro m
            induction m with
            | zero => intro acc; simp
            | succ m ih =>
              intro acc
              rw [List.replicate_succ, List.foldl_cons, ih, List.replicate_succ, List.flatten_cons]
              apply Array.toList_inj.mp
              simp
          rw [hg]
          simp
        rw [e2]
        refine ⟨?_, ⟨.str _, H, I.tok _, ⟨_, rfl⟩, q⟩⟩
        show (List.replicate k.toNat z.cps.toList).flatten.toArray.size ≤ sizeLine
        rw [List.size_toArray, sizeLine_eq, List.length_flatten, List.map_replicate, List.sum_replicate_nat]
        rw [← hl, Nat.mul_comm]
        omega
end
end Fw
end
-- Fw4
section
set_option Elab.async false
set_option linter.all false
set_option maxRecDepth 100000
set_option maxHeartbeats 4000000
/-! Fw4: comparisons, subscripts, built-ins by data. -/
namespace Fw
open PySem PySem.Spec PyProof.Rows L2
section
variable {X : Cx} {K : PySem.W.Frag}
theorem imp_mul : Imp2 K (fun x y H Q => rI CMul (fun i j => .int (i * j)) x y H Q ∨ rRepT2 K x y H Q ∨ (∃ z k, x = .str z ∧ y = .int k ∧ 1 ≤ k ∧ k ≤ 1000000 ∧ k * z.length ≤ 1000000 ∧ Q (.str ⟨(List.replicate k.toNat z.cps.toList).flatten.toArray⟩) H)) (fun _ x y => opMul x y) := by
  intro N μ st H v u x y d Q w rx ry e q
  cases x <;> cases y <;> first | (cases e; done) | skip
  · simp only [opMul] at e
    split at e
    · cases e; exact .inl ⟨_, _, repW_int rx, repW_int ry, ‹_›, beh_same q w (.int _)⟩
    · cases e
  · simp only [opMul] at e
    split at e
    · rename_i h
      cases e; exact .inr (.inr ⟨_, _, repW_str rx, repW_int ry, h.1, h.2.1, h.2.2, beh_same q w (.str _)⟩)
    · cases e
  · simp only [opMul] at e
    split at e
    · rename_i k h
      cases e
      obtain ⟨a, vs, rfl, h1, h2⟩ := repW_tup rx
      refine .inr (.inl ⟨a, _, vs, rfl, repW_int ry, h1.sq, fun z => ?_, h.2.1, by rw [h2.length]; exact h.2.2, fun z => ?_, fun _ => beh_tup q w (h2.rep _)⟩)
      · subst z; cases h2; exact h.1 rfl
      · subst z
        refine beh_same q w ?_
        have e2 := h2.rep 1
        simp only [List.replicate_one, List.flatten_cons, List.flatten_nil, List.append_nil] at e2
        show Rep K H (Fo μ N) μ (.ref a) (.tup (List.replicate (1 : Int).toNat _).flatten)
        simp only [show (1 : Int).toNat = 1 from rfl, List.replicate_one, List.flatten_cons, List.flatten_nil, List.append_nil]
        exact .tup h1 e2
    · cases e
theorem op_mulD : OpR X (binaryOp .Mult) (fun x y H Q => rI CMul (fun i j => .int (i * j)) x y H Q ∨ rRepT2 X.K x y H Q ∨ (∃ z k, x = .str z ∧ y = .int k ∧ 1 ≤ k ∧ k ≤ 1000000 ∧ k * z.length ≤ 1000000 ∧ Q (.str ⟨(List.replicate k.toNat z.cps.toList).flatten.toArray⟩) H)) := op_mul.or (op_repT2.or op_repS)

/-! comparisons -/
def ImpC (K : PySem.W.Frag) (r : R2) (g : Store → Dat → Dat → Option Bool) : Prop := ∀ (N : Addr → Prop) (μ : List Addr) (st : Store) (H : Hp) (v u : V) (x y : Dat) (k : Bool) (Q : VK), WOk K H N μ st → RepW K H N μ v x → RepW K H N μ u y → g st x y = some k →
  Q (.bl k) H → r v u H Q
theorem impc_eq : ImpC K (rEqD K) (fun _ x y => opEq x y) := by
  intro N μ st H v u x y k Q w rx ry e q
  simp only [opEq] at e
  split at e
  · rename_i h
    cases e
    simp only [Bool.and_eq_true] at h
    exact ⟨_, _, rx.dp h.1.1.1, ry.dp h.1.1.2, h.1.2, h.2, q⟩
  · cases e
theorem impc_ne : ImpC K (rNeD K) (fun _ x y => (opEq x y).map (!·)) := by
  intro N μ st H v u x y k Q w rx ry e q
  simp only [opEq] at e
  split at e
  · rename_i h
    cases e
    simp only [Bool.and_eq_true] at h
    exact ⟨_, _, rx.dp h.1.1.1, ry.dp h.1.1.2, h.1.2, h.2, q⟩
  · cases e
theorem impc_lt : ImpC K (fun x y H Q => rI0 (fun i j => .bl (decide (i < j))) x y H Q ∨ ∃ i j, x = .str i ∧ y = .str j ∧ Q (.bl (decide (i.cps.toList < j.cps.toList))) H) (fun _ x y => opLt x y) := by
  intro N μ st H v u x y k Q w rx ry e q
  cases x <;> cases y <;> first | (cases e; done) | skip
  · cases e; exact .inl ⟨_, _, repW_int rx, repW_int ry, q⟩
  · cases e; exact .inr ⟨_, _, repW_str rx, repW_str ry, q⟩
theorem impc_le : ImpC K (rI0 (fun i j => .bl (decide (i ≤ j)))) (fun _ x y => opLe x y) := by
  intro N μ st H v u x y k Q w rx ry e q
  cases x <;> cases y <;> first | (cases e; done) | skip
  · cases e; exact ⟨_, _, repW_int rx, repW_int ry, q⟩
theorem impc_gt : ImpC K (rI0 (fun i j => .bl (decide (j < i)))) (fun _ x y => opLtI y x) := by
  intro N μ st H v u x y k Q w rx ry e q
  cases x <;> cases y <;> first | (cases e; done) | skip
  · cases e; exact ⟨_, _, repW_int rx, repW_int ry, q⟩
theorem impc_ge : ImpC K (rI0 (fun i j => .bl (decide (j ≤ i)))) (fun _ x y => opLe y x) := by
  intro N μ st H v u x y k Q w rx ry e q
  cases x <;> cases y <;> first | (cases e; done) | skip
  · cases e; exact ⟨_, _, repW_int rx, repW_int ry, q⟩
theorem rep_flat {H : Hp} {F : Addr → Prop} {μ : List Addr} {v : V} {d : Dat} (r : Rep K H F μ v d) (f : flatD d = true) : flatV v = true := by cases r <;> first | rfl | cases f
theorem eq_flat {H : Hp} {F : Addr → Prop} {μ : List Addr} {v u : V} {d e : Dat} (r : Rep K H F μ v d) (q : Rep K H F μ u e) (f : flatD d = true) (g : flatD e = true) : eqV v u = eqF d e := by
  cases r <;> cases q <;> first | rfl | cases f | cases g
theorem reps_flat {H : Hp} {F : Addr → Prop} {μ : List Addr} {v : V} {d : Dat} (r : Rep K H F μ v d) (f : flatD d = true) : ∀ {ds : List Dat} {vs : List V}, Reps K H F μ vs ds → ds.all flatD = true → vs.all flatV = true ∧ inV v vs = ds.any fun z => eqF z d
  | [], _, h, _ => by cases h; exact ⟨rfl, rfl⟩
  | x :: ds, _, h, g => by
    cases h with
    | cons h1 h2 =>
      rw [List.all_cons, Bool.and_eq_true] at g
      obtain ⟨i1, i2⟩ := reps_flat r f h2 g.2
      refine ⟨by rw [List.all_cons, rep_flat h1 g.1, i1]; rfl, ?_⟩
      unfold inV at i2 ⊢
      rw [List.any_cons, List.any_cons, i2, eq_flat h1 r g.1 f]
theorem in_seq {N : Addr → Prop} {μ : List Addr} {st : Store} {H : Hp} {v u : V} {x y : Dat} {k : Bool} (w : WOk K H N μ st) (rx : RepW K H N μ v x) (ry : RepW K H N μ u y) (e : inSeq st x y = some k) :
    ∃ p xs, u = .ref p ∧ (SqL K H p xs ∨ SqT K H p xs) ∧ flatV v = true ∧ xs.all flatV = true ∧ inV v xs = k := by
  unfold inSeq at e
  cases q : seqOf st y with
  | none => rw [q] at e; cases e
  | some ds =>
    rw [q] at e
    simp only at e
    split at e
    · rename_i h
      cases e
      rw [Bool.and_eq_true] at h
      obtain ⟨a, vs, rfl, hs, hr⟩ := seq_of w ry q
      have rx' : Rep K H (Fo μ N) μ v x := by
        rcases rx with r | ⟨_, _, _, _, rfl, _⟩
        · exact r
        · cases h.1
      obtain ⟨f1, f2⟩ := reps_flat rx' h.1 hr h.2
      exact ⟨a, vs, rfl, hs, rep_flat rx' h.1, f1, f2⟩
    · cases e
def rInStr : R2 := fun x y H Q => ∃ i j, x = .str i ∧ y = .str j ∧ Q (.bl (!(Builtin.Str.occurrences j i 0 j.length 1).isEmpty)) H
def rNotInStr : R2 := fun x y H Q => ∃ i j, x = .str i ∧ y = .str j ∧ Q (.bl (!(!(Builtin.Str.occurrences j i 0 j.length 1).isEmpty))) H
theorem impc_in : ImpC K (fun x y H Q => rInStr x y H Q ∨ rIn K false x y H Q) opIn := by
  intro N μ st H v u x y k Q w rx ry e q
  by_cases hy : ∃ j, y = .str j
  · obtain ⟨j, rfl⟩ := hy
    cases x <;> first | (cases e; done) | skip
    cases e; exact .inl ⟨_, _, repW_str rx, repW_str ry, q⟩
  · have e' : inSeq st x y = some k := by
      cases y <;> first | exact e | exact absurd ⟨_, rfl⟩ hy
    obtain ⟨p, xs, e1, e2, e3, e4, e5⟩ := in_seq w rx ry e'
    exact .inr ⟨p, xs, e1, e2, e3, e4, by rw [if_neg Bool.false_ne_true, e5]; exact q⟩
theorem impc_notIn : ImpC K (fun x y H Q => rNotInStr x y H Q ∨ rIn K true x y H Q) (fun st x y => (opIn st x y).map (!·)) := by
  intro N μ st H v u x y k Q w rx ry e q
  by_cases hy : ∃ j, y = .str j
  · obtain ⟨j, rfl⟩ := hy
    cases x <;> first | (cases e; done) | skip
    cases e; exact .inl ⟨_, _, repW_str rx, repW_str ry, q⟩
  · have e' : (inSeq st x y).map (!·) = some k := by
      cases y <;> first | exact e | exact absurd ⟨_, rfl⟩ hy
    obtain ⟨k', e1, rfl⟩ := Option.map_eq_some_iff.mp e'
    obtain ⟨p, xs, e1, e2, e3, e4, e5⟩ := in_seq w rx ry e1
    exact .inr ⟨p, xs, e1, e2, e3, e4, by rw [if_pos rfl, e5]; exact q⟩
theorem rep_non {N : Addr → Prop} {μ : List Addr} {H : Hp} {v : V} {x : Dat} (r : RepW K H N μ v x) : decide (v = .non) = isNon x := by
  rcases r with r | ⟨_, _, _, rfl, rfl, _⟩
  · cases r <;> rfl
  · rfl
theorem impc_is : ImpC K (fun x y H Q => y = .non ∧ Q (.bl (decide (x = .non))) H) (fun _ x y => opIs x y) := by
  intro N μ st H v u x y k Q w rx ry e q
  simp only [opIs] at e
  split at e
  · rename_i h
    cases e
    refine ⟨of_decide_eq_true ((rep_non ry).trans h), by rw [rep_non rx]; exact q⟩
  · cases e
theorem impc_isnot : ImpC K (fun x y H Q => y = .non ∧ Q (.bl (!decide (x = .non))) H) (fun _ x y => (opIs x y).map (!·)) := by
  intro N μ st H v u x y k Q w rx ry e q
  simp only [opIs] at e
  split at e
  · rename_i h
    cases e
    refine ⟨of_decide_eq_true ((rep_non ry).trans h), by rw [rep_non rx]; exact q⟩
  · cases e
/-- each comparison has a reading that its datum's answer implies -/
theorem cmp_all (hu : X.A.units + 64 < cLine) (o : CmpOp) : ∃ r, OpR X (compareOp o) r ∧ ImpC X.K r (fun st x y => opCmp st o x y) := by
  cases o with
  | Eq => exact ⟨_, op_eqD hu, impc_eq⟩
  | NotEq => exact ⟨_, op_neD hu, impc_ne⟩
  | Lt => exact ⟨_, op_lt.or op_lt_str, impc_lt⟩
  | LtE => exact ⟨_, op_le, impc_le⟩
  | Gt => exact ⟨_, op_gt, impc_gt⟩
  | GtE => exact ⟨_, op_ge, impc_ge⟩
  | In => exact ⟨_, OpR.or op_in_str op_in_seq, impc_in⟩
  | NotIn => exact ⟨_, OpR.or op_notin_str op_notIn_seq, impc_notIn⟩
  | Is => exact ⟨_, op_isN, impc_is⟩
  | IsNot => exact ⟨_, op_notN, impc_isnot⟩
theorem bin_all (o : Operator) : ∃ r, OpR X (binaryOp o) r ∧ Imp2 X.K r (fun _ x y => opBin o x y) := by
  have no : OpR X (binaryOp o) (fun _ _ _ _ => False) := fun _ _ _ _ _ _ _ _ _ _ _ _ h => h.elim
  cases o with
  | Add => exact ⟨_, op_addD, imp_add⟩
  | Sub => exact ⟨_, op_sub, imp_sub⟩
  | Mult => exact ⟨_, op_mulD, imp_mul⟩
  | FloorDiv => exact ⟨_, op_fdivN, imp_div⟩
  | Mod => exact ⟨_, op_modN, imp_mod⟩
  | Pow => exact ⟨_, op_pow, imp_pow⟩
  | _ => exact ⟨_, no, fun _ _ _ _ _ _ _ _ _ _ _ _ _ e _ => nomatch e⟩

/-! subscripts -/
theorem cut_map {F : Addr → Prop} {H : Hp} {μ : List Addr} {ds : List Dat} {vs : List V} (r : Reps K H F μ vs ds) (lo hi : Option Int) : Reps K H F μ (cutV vs lo hi) (cutD ds lo hi) := by
  unfold cutV cutD
  rw [r.length]
  exact (r.drop _).take _
theorem at_get {α : Type} {xs : List α} {i : Int} {v : α} (h : atI xs i = some v) : ∃ j, ixN xs.length i = some j ∧ xs[j]? = some v := by
  unfold atI at h
  cases e : ixN xs.length i with
  | none => rw [e] at h; cases h
  | some j => rw [e] at h; exact ⟨j, rfl, h⟩
theorem at_of {α : Type} {xs : List α} {i : Int} {v : α} {j : Nat} (h : ixN xs.length i = some j) (h2 : xs[j]? = some v) : atI xs i = some v := by
  unfold atI
  rw [h]
  exact h2
theorem imp_ix : Imp2 K (rIx K) (fun st x y => opIx st x y) := by
  intro N μ st H v u x y d Q w rx ry e q
  cases y <;> first | (cases e; done) | skip
  rename_i i
  by_cases hx : ∃ z, x = .str z
  · obtain ⟨z, rfl⟩ := hx
    simp only [opIx] at e
    split at e
    · rename_i h
      obtain ⟨c, e1, rfl⟩ := Option.map_eq_some_iff.mp e
      exact .inr (.inr ⟨z, i, c, repW_str rx, repW_int ry, h, e1, beh_same q w (.str _)⟩)
    · cases e
  · have e' : (match seqOf st x with | some ds => atI ds i | none => none) = some d := by
      cases x <;> first | exact e | exact absurd ⟨_, rfl⟩ hx
    cases es : seqOf st x with
    | none => rw [es] at e'; cases e'
    | some ds =>
      rw [es] at e'
      obtain ⟨j, h1, h2⟩ := at_get e'
      obtain ⟨a, vs, rfl, hs, hr⟩ := seq_of w rx es
      obtain ⟨v', g1, g2⟩ := hr.get' h2
      have g : atI vs i = some v' := at_of (by rw [hr.length]; exact h1) g1
      rcases hs with hs | hs
      · exact .inl ⟨a, vs, i, v', rfl, repW_int ry, hs, g, beh_same q w g2⟩
      · exact .inr (.inl ⟨a, vs, i, v', rfl, repW_int ry, hs, g, beh_same q w g2⟩)
def rSlD (K : PySem.W.Frag) : V → Option Int → Option Int → Hp → VK → Prop := fun x lo hi H Q => rSlA K x lo hi H Q ∨ rSlL K x lo hi H Q
theorem sl_D : SlR X (rSlD X.K) := SlR.or sl_tupA sl_list
theorem cut_whole {α : Type} {xs : List α} {lo hi : Option Int} (h : HT.sIx xs.length 0 lo = 0 ∧ HT.sIx xs.length xs.length hi = xs.length) : cutD xs lo hi = xs := by
  unfold cutD
  rw [h.1, h.2]
  simp
theorem imp_sl {N : Addr → Prop} {μ : List Addr} {st : Store} {H : Hp} {v : V} {x d : Dat} {lo hi : Option Int} {Q : VK} (w : WOk K H N μ st) (rx : RepW K H N μ v x) (e : opSl st x lo hi = some d) (q : Beh K (RepS K) H N μ Q d st) : rSlD K v lo hi H Q := by
  by_cases hx : ∃ ds, x = .tup ds
  · obtain ⟨ds, rfl⟩ := hx
    cases e
    obtain ⟨a, vs, rfl, h1, h2⟩ := repW_tup rx
    refine .inl ⟨a, vs, rfl, h1.sq, fun z => ?_, fun _ => beh_tup q w (cut_map h2 lo hi)⟩
    rw [h2.length] at z
    rw [cut_whole z] at q
    exact beh_same q w (.tup h1 h2)
  · have e' : (match lstOf st x with | some ds => some (Dat.lst (cutD ds lo hi)) | none => none) = some d := by
      cases x <;> first | exact e | exact absurd ⟨_, rfl⟩ hx
    cases es : lstOf st x with
    | none => rw [es] at e'; cases e'
    | some ds =>
      rw [es] at e'
      cases e'
      obtain ⟨a, vs, rfl, h1, h2⟩ := lst_of w rx es
      exact .inr ⟨a, vs, rfl, SqL.of h1, beh_lst q w (cut_map h2 lo hi)⟩
end
end Fw
end
-- Fw5
section
set_option Elab.async false
set_option linter.all false
set_option maxRecDepth 100000
set_option maxHeartbeats 4000000
/-! Fw5: built-ins by data. -/
namespace Fw
open PySem PySem.Spec PyProof.Rows L2
section
variable {X : Cx} {K : PySem.W.Frag}
/-! sorting: one result -/
theorem insI_perm (i : Int) : ∀ l, (insI i l).Perm (i :: l)
  | [] => .refl _
  | j :: r => by
    unfold insI
    split
    · exact .refl _
    · exact ((insI_perm i r).cons j).trans (.swap i j r)
theorem sortI_perm : ∀ l, (sortI l).Perm l
  | [] => .refl _
  | i :: r => (insI_perm i _).trans ((sortI_perm r).cons i)
theorem insI_mem {i j : Int} {l : List Int} (h : j ∈ insI i l) : j = i ∨ j ∈ l := by
  have := (insI_perm i l).mem_iff.mp h
  simpa using this
theorem insI_sorted (i : Int) : ∀ l, l.Pairwise (· ≤ ·) → (insI i l).Pairwise (· ≤ ·)
  | [], _ => by simp [insI]
  | j :: r, h => by
    rw [List.pairwise_cons] at h
    unfold insI
    split
    · rename_i hij
      rw [List.pairwise_cons]
      refine ⟨fun a ha => ?_, List.pairwise_cons.mpr h⟩
      rcases List.mem_cons.mp ha with rfl | ha
      · exact hij
      · exact Int.le_trans hij (h.1 a ha)
    · rename_i hij
      rw [List.pairwise_cons]
      refine ⟨fun a ha => ?_, insI_sorted i r h.2⟩
      rcases insI_mem ha with rfl | ha
      · omega
      · exact h.1 a ha
theorem sortI_sorted : ∀ l, (sortI l).Pairwise (· ≤ ·)
  | [] => .nil
  | i :: r => insI_sorted i _ (sortI_sorted r)
theorem sortI_of {l l' : List Int} (p : l'.Perm l) (h : l'.Pairwise (· ≤ ·)) : l' = sortI l :=
  List.Perm.eq_of_pairwise (fun a b _ _ h1 h2 => Int.le_antisymm h1 h2) h (sortI_sorted l) (p.trans (sortI_perm l).symm)
theorem leS_iff {x y : Str} : leS x y = true ↔ x.cps.toList ≤ y.cps.toList := by
  unfold leS
  rw [Bool.not_eq_true', decide_eq_false_iff_not]
  exact Iff.rfl
theorem leS_total {x y : Str} (h : ¬ leS x y = true) : leS y x = true := by
  rw [leS_iff] at h ⊢
  rcases List.le_total x.cps.toList y.cps.toList with q | q
  · exact absurd q h
  · exact q
theorem leS_trans {x y z : Str} (h : leS x y = true) (h' : leS y z = true) : leS x z = true := by
  rw [leS_iff] at h h' ⊢
  exact List.le_trans h h'
theorem leS_antisymm {x y : Str} (h : leS x y = true) (h' : leS y x = true) : x = y := by
  rw [leS_iff] at h h'
  have e := List.le_antisymm h h'
  obtain ⟨⟨a⟩⟩ := x
  obtain ⟨⟨b⟩⟩ := y
  simp at e
  rw [e]
theorem insS_perm (i : Str) : ∀ l, (insS i l).Perm (i :: l)
  | [] => .refl _
  | j :: r => by
    unfold insS
    split
    · exact .refl _
    · exact ((insS_perm i r).cons j).trans (.swap i j r)
theorem sortS_perm : ∀ l, (sortS l).Perm l
  | [] => .refl _
  | i :: r => (insS_perm i _).trans ((sortS_perm r).cons i)
theorem insS_mem {i j : Str} {l : List Str} (h : j ∈ insS i l) : j = i ∨ j ∈ l := by
  have := (insS_perm i l).mem_iff.mp h
  simpa using this
theorem insS_sorted (i : Str) : ∀ l, l.Pairwise (fun a b => leS a b = true) → (insS i l).Pairwise (fun a b => leS a b = true)
  | [], _ => by simp [insS]
  | j :: r, h => by
    rw [List.pairwise_cons] at h
    unfold insS
    split
    · rename_i hij
      rw [List.pairwise_cons]
      refine ⟨fun a ha => ?_, List.pairwise_cons.mpr h⟩
      rcases List.mem_cons.mp ha with rfl | ha
      · exact hij
      · exact leS_trans hij (h.1 a ha)
    · rename_i hij
      rw [List.pairwise_cons]
      refine ⟨fun a ha => ?_, insS_sorted i r h.2⟩
      rcases insS_mem ha with rfl | ha
      · exact leS_total hij
      · exact h.1 a ha
theorem sortS_sorted : ∀ l, (sortS l).Pairwise (fun a b => leS a b = true)
  | [] => .nil
  | i :: r => insS_sorted i _ (sortS_sorted r)
theorem sortS_of {l l' : List Str} (p : l'.Perm l) (h : l'.Pairwise (fun a b => leS a b = true)) : l' = sortS l :=
  List.Perm.eq_of_pairwise (fun a b _ _ h1 h2 => leS_antisymm h1 h2) h (sortS_sorted l) (p.trans (sortS_perm l).symm)
theorem rising_pair : ∀ {p : Str} {l : List Str}, risingS p l = true → (p :: l).Pairwise (fun a b => leS a b = true)
  | p, [], _ => by simp
  | p, x :: r, h => by
    have h' : (!Spec.ltCps x.cps.toList p.cps.toList && risingS x r) = true := h
    rw [Bool.and_eq_true] at h'
    have ih := rising_pair h'.2
    have h1 : leS p x = true := by
      unfold leS
      rw [← ltCps_eq]
      exact h'.1
    rw [List.pairwise_cons]
    refine ⟨fun a ha => ?_, ih⟩
    rcases List.mem_cons.mp ha with rfl | ha
    · exact h1
    · exact leS_trans h1 ((List.pairwise_cons.mp ih).1 a ha)
theorem sortedS_pair : ∀ {l : List Str}, sortedS l = true → l.Pairwise (fun a b => leS a b = true)
  | [], _ => .nil
  | x :: r, h => rising_pair h
theorem maxI_spec : ∀ (m : Int) (l : List Int), (maxI m l = m ∨ maxI m l ∈ l) ∧ m ≤ maxI m l ∧ ∀ y ∈ l, y ≤ maxI m l
  | m, [] => ⟨.inl rfl, Int.le_refl _, fun _ h => nomatch h⟩
  | m, i :: r => by
    unfold maxI
    obtain ⟨h1, h2, h3⟩ := maxI_spec (if m < i then i else m) r
    split at h1 <;> rename_i hmi <;> simp only [hmi, if_true, if_false] at h2 h3 ⊢
    · refine ⟨.inr ?_, by omega, fun y hy => ?_⟩
      · rcases h1 with h1 | h1
        · rw [h1]; exact List.mem_cons_self
        · exact List.mem_cons_of_mem _ h1
      · rcases List.mem_cons.mp hy with rfl | hy
        · exact h2
        · exact h3 y hy
    · refine ⟨?_, h2, fun y hy => ?_⟩
      · rcases h1 with h1 | h1
        · exact .inl h1
        · exact .inr (List.mem_cons_of_mem _ h1)
      · rcases List.mem_cons.mp hy with rfl | hy
        · omega
        · exact h3 y hy
theorem minI_spec : ∀ (m : Int) (l : List Int), (minI m l = m ∨ minI m l ∈ l) ∧ minI m l ≤ m ∧ ∀ y ∈ l, minI m l ≤ y
  | m, [] => ⟨.inl rfl, Int.le_refl _, fun _ h => nomatch h⟩
  | m, i :: r => by
    unfold minI
    obtain ⟨h1, h2, h3⟩ := minI_spec (if i < m then i else m) r
    split at h1 <;> rename_i hmi <;> simp only [hmi, if_true, if_false] at h2 h3 ⊢
    · refine ⟨.inr ?_, by omega, fun y hy => ?_⟩
      · rcases h1 with h1 | h1
        · rw [h1]; exact List.mem_cons_self
        · exact List.mem_cons_of_mem _ h1
      · rcases List.mem_cons.mp hy with rfl | hy
        · exact h2
        · exact h3 y hy
    · refine ⟨?_, h2, fun y hy => ?_⟩
      · rcases h1 with h1 | h1
        · exact .inl h1
        · exact .inr (List.mem_cons_of_mem _ h1)
      · rcases List.mem_cons.mp hy with rfl | hy
        · omega
        · exact h3 y hy
theorem maxI_mem (m : Int) (l : List Int) : maxI m l ∈ m :: l := by
  rcases (maxI_spec m l).1 with h | h
  · rw [h]; exact List.mem_cons_self
  · exact List.mem_cons_of_mem _ h
theorem minI_mem (m : Int) (l : List Int) : minI m l ∈ m :: l := by
  rcases (minI_spec m l).1 with h | h
  · rw [h]; exact List.mem_cons_self
  · exact List.mem_cons_of_mem _ h

/-! the built-ins -/
def biV : Bi → Value
  | .len => .builtin "len" | .abs => .builtin "abs" | .int => .type "int" | .str => .type "str" | .list => .type "list" | .tuple => .type "tuple"
  | .sorted => .builtin "sorted" | .sum => .builtin "sum" | .max => .builtin "max" | .min => .builtin "min" | .all => .builtin "all" | .any => .builtin "any"
def biN : Bi → Str
  | .len => "len" | .abs => "abs" | .int => "int" | .str => "str" | .list => "list" | .tuple => "tuple"
  | .sorted => "sorted" | .sum => "sum" | .max => "max" | .min => "min" | .all => "all" | .any => "any"
theorem biN_boot (b : Bi) : bootBuiltins (biN b) = some (biV b) := by cases b <;> decide +kernel
theorem biN_ok (b : Bi) : biN b ≠ "__name__" ∧ (biN b == ("__debug__" : Str)) = false := by cases b <;> decide
abbrev RA := List V → Hp → VK → Prop
def ImpA (K : PySem.W.Frag) (r : RA) (g : Store → List Dat → Option Dat) : Prop := ∀ (N : Addr → Prop) (μ : List Addr) (st : Store) (H : Hp) (vs : List V) (ds : List Dat) (d : Dat) (Q : VK), WOk K H N μ st → Paired (RepW K H N μ) vs ds → g st ds = some d →
  Beh K (RepS K) H N μ Q d st → r vs H Q
theorem paired1 {R : V → Dat → Prop} {vs : List V} {d : Dat} (h : Paired R vs [d]) : ∃ v, vs = [v] ∧ R v d := by
  cases h with
  | cons r t => cases t; exact ⟨_, rfl, r⟩
theorem paired2 {R : V → Dat → Prop} {vs : List V} {d e : Dat} (h : Paired R vs [d, e]) : ∃ v u, vs = [v, u] ∧ R v d ∧ R u e := by
  cases h with
  | cons r t =>
    cases t with
    | cons r' t => cases t; exact ⟨_, _, rfl, r, r'⟩
theorem CallR.impl {f : Value} {r r' : RA} (h : CallR X f r) (hi : ∀ xs H Q, r' xs H Q → r xs H Q) : CallR X f r' := fun pins s σ H xs us Q I rv q => h pins s σ H xs us Q I rv (hi xs H Q q)
/-- what a built-in asks, by the datum -/
def rBi (K : PySem.W.Frag) (b : Bi) : RA := fun vs H Q => ∃ (N : Addr → Prop) (μ : List Addr) (st : Store) (ds : List Dat) (d : Dat), WOk K H N μ st ∧ Paired (RepW K H N μ) vs ds ∧ opBi st b ds = some d ∧ Beh K (RepS K) H N μ Q d st
theorem bi_len : CallR X (.builtin "len") (rBi X.K .len) := by
  refine CallR.impl call_len fun xs H Q ⟨N, μ, st, ds, d, w, hp, e, q⟩ => ?_
  match ds, e with
  | [x], e =>
    obtain ⟨v, rfl, r⟩ := paired1 hp
    by_cases hx : ∃ z, x = .str z
    · obtain ⟨z, rfl⟩ := hx
      simp only [opBi] at e
      split at e
      · rename_i h
        cases e
        obtain rfl := repW_str r
        exact ⟨_, _, rfl, ⟨h, rfl⟩, beh_same q w (.int _)⟩
      · cases e
    · have e' : (seqOf st x).map (fun ds => Dat.int ds.length) = some d := by
        cases x <;> first | exact e | exact absurd ⟨_, rfl⟩ hx
      obtain ⟨ds, e1, rfl⟩ := Option.map_eq_some_iff.mp e'
      obtain ⟨a, vs, rfl, hs, hr⟩ := seq_of w r e1
      refine ⟨_, vs.length, rfl, ?_, ?_⟩
      · rcases hs with hs | hs
        · exact .inl ⟨vs, hs, rfl⟩
        · exact .inr ⟨vs, hs, rfl⟩
      · rw [hr.length]
        exact beh_same q w (.int _)
  | [], e => simp [opBi] at e
  | _ :: _ :: _, e => simp [opBi] at e
theorem bi_abs : CallR X (.builtin "abs") (rBi X.K .abs) := by
  refine CallR.impl call_abs fun xs H Q ⟨N, μ, st, ds, d, w, hp, e, q⟩ => ?_
  match ds, e with
  | [.int i], e =>
    obtain ⟨v, rfl, r⟩ := paired1 hp
    cases e
    obtain rfl := repW_int r
    exact ⟨i, rfl, beh_same q w (.int _)⟩
theorem bi_int : CallR X (.type "int") (rBi X.K .int) := by
  refine CallR.impl call_int1 fun xs H Q ⟨N, μ, st, ds, d, w, hp, e, q⟩ => ?_
  match ds, e with
  | [.int i], e =>
    obtain ⟨v, rfl, r⟩ := paired1 hp
    cases e
    obtain rfl := repW_int r
    exact .inl ⟨i, rfl, beh_same q w (.int _)⟩
theorem bi_str : CallR X (.type "str") (rBi X.K .str) := by
  refine CallR.impl call_str_int fun xs H Q ⟨N, μ, st, ds, d, w, hp, e, q⟩ => ?_
  match ds, e with
  | [.int i], e =>
    obtain ⟨v, rfl, r⟩ := paired1 hp
    simp only [opBi] at e
    split at e
    · rename_i h
      cases e
      obtain rfl := repW_int r
      exact ⟨i, rfl, h, beh_same q w (.str _)⟩
    · cases e
theorem bi_list : CallR X (.type "list") (rBi X.K .list) := by
  refine CallR.impl call_list_of fun xs H Q ⟨N, μ, st, ds, d, w, hp, e, q⟩ => ?_
  match ds, e with
  | [x], e =>
    obtain ⟨v, rfl, r⟩ := paired1 hp
    by_cases hx : ∃ z, x = .scr z
    · obtain ⟨z, rfl⟩ := hx
      cases e
      rcases r with r | ⟨_, _, _, _, r, _⟩
      · cases r with
        | scr h =>
          rcases h with ⟨o, h, f⟩ | h
          · exact ⟨_, _, rfl, .inl (.inl (.inr ⟨_, h⟩)), beh_lst q w (reps_ints _)⟩
          · exact ⟨_, _, rfl, .inl (.inr h), beh_lst q w (reps_ints _)⟩
      · cases r
    · have e' : (seqOf st x).map (fun ds => Dat.lst ds) = some d := by
        cases x <;> first | exact e | exact absurd ⟨_, rfl⟩ hx
      obtain ⟨ds, e1, rfl⟩ := Option.map_eq_some_iff.mp e'
      obtain ⟨a, vs, rfl, hs, hr⟩ := seq_of w r e1
      exact ⟨a, vs, rfl, hs, beh_lst q w hr⟩
  | [], e => simp [opBi] at e
  | _ :: _ :: _, e => simp [opBi] at e
theorem bi_tuple : CallR X (.type "tuple") (rBi X.K .tuple) := by
  refine CallR.impl call_tuple_of fun xs H Q ⟨N, μ, st, ds, d, w, hp, e, q⟩ => ?_
  match ds, e with
  | [x], e =>
    obtain ⟨v, rfl, r⟩ := paired1 hp
    have e' : (seqOf st x).map (fun ds => Dat.tup ds) = some d := e
    obtain ⟨ds, e1, rfl⟩ := Option.map_eq_some_iff.mp e'
    by_cases hx : ∃ zs, x = .tup zs
    · obtain ⟨zs, rfl⟩ := hx
      cases e1
      obtain ⟨a, vs, rfl, h1, h2⟩ := repW_tup r
      exact ⟨a, vs, rfl, .inr ⟨h1.sq, beh_same q w (.tup h1 h2)⟩⟩
    · have e2 : lstOf st x = some ds := by
        cases x <;> first | exact e1 | exact absurd ⟨_, rfl⟩ hx | exact nomatch e1
      obtain ⟨a, vs, rfl, h1, h2⟩ := lst_of w r e2
      exact ⟨a, vs, rfl, .inl ⟨SqL.of h1, beh_tup q w h2⟩⟩
  | [], e => simp [opBi] at e
  | _ :: _ :: _, e => simp [opBi] at e
theorem bi_sorted : CallR X (.builtin "sorted") (rBi X.K .sorted) := by
  refine CallR.impl (CallR.or cr_sortedI cr_sortedS) fun xs H Q ⟨N, μ, st, ds, d, w, hp, e, q⟩ => ?_
  match ds, e with
  | [x], e =>
    obtain ⟨v, rfl, r⟩ := paired1 hp
    simp only [opBi] at e
    split at e
    · rename_i ds e1
      obtain ⟨a, vs, rfl, h1, h2⟩ := lst_of w r e1
      split at e
      · rename_i ns e2
        cases e
        obtain ⟨rfl, rfl⟩ := ints_of h2 e2
        refine .inl ⟨a, ns, rfl, SqL.of h1, fun ns' p pm hs hp => ?_⟩
        rw [sortI_of pm hs]
        exact beh_lst q w (reps_ints _) p hp
      · split at e
        · rename_i zs e2
          split at e
          · rename_i hl
            cases e
            obtain ⟨rfl, rfl⟩ := strs_of h2 e2
            refine .inr ⟨a, zs, rfl, SqL.of h1, hl, fun ns' p pm hs hp => ?_⟩
            rw [sortS_of pm (sortedS_pair hs)]
            exact beh_lst q w (reps_strs _) p hp
          · cases e
        · cases e
    · cases e
  | [], e => simp [opBi] at e
  | _ :: _ :: _, e => simp [opBi] at e
theorem bi_sum (hc : X.calm = true) : CallR X (.builtin "sum") (rBi X.K .sum) := by
  refine CallR.impl (cr_sum hc) fun xs H Q ⟨N, μ, st, ds, d, w, hp, e, q⟩ => ?_
  match ds, e with
  | [x], e =>
    obtain ⟨v, rfl, r⟩ := paired1 hp
    simp only [opBi] at e
    split at e
    · rename_i ds e1
      obtain ⟨a, vs, rfl, h1, h2⟩ := lst_of w r e1
      obtain ⟨ns, e2, rfl⟩ := Option.map_eq_some_iff.mp e
      obtain ⟨rfl, rfl⟩ := ints_of h2 e2
      exact ⟨a, ns, rfl, SqL.of h1, beh_same q w (.int _)⟩
    · cases e
  | [], e => simp [opBi] at e
  | _ :: _ :: _, e => simp [opBi] at e
theorem bi_all (hc : X.calm = true) : CallR X (.builtin "all") (rBi X.K .all) := by
  refine CallR.impl (cr_all hc) fun xs H Q ⟨N, μ, st, ds, d, w, hp, e, q⟩ => ?_
  match ds, e with
  | [x], e =>
    obtain ⟨v, rfl, r⟩ := paired1 hp
    simp only [opBi] at e
    split at e
    · rename_i ds e1
      obtain ⟨a, vs, rfl, h1, h2⟩ := lst_of w r e1
      obtain ⟨ns, e2, rfl⟩ := Option.map_eq_some_iff.mp e
      obtain ⟨rfl, rfl⟩ := bls_of h2 e2
      exact ⟨a, ns, rfl, SqL.of h1, beh_same q w (.bl _)⟩
    · cases e
  | [], e => simp [opBi] at e
  | _ :: _ :: _, e => simp [opBi] at e
theorem bi_any (hc : X.calm = true) : CallR X (.builtin "any") (rBi X.K .any) := by
  refine CallR.impl (cr_any hc) fun xs H Q ⟨N, μ, st, ds, d, w, hp, e, q⟩ => ?_
  match ds, e with
  | [x], e =>
    obtain ⟨v, rfl, r⟩ := paired1 hp
    simp only [opBi] at e
    split at e
    · rename_i ds e1
      obtain ⟨a, vs, rfl, h1, h2⟩ := lst_of w r e1
      obtain ⟨ns, e2, rfl⟩ := Option.map_eq_some_iff.mp e
      obtain ⟨rfl, rfl⟩ := bls_of h2 e2
      exact ⟨a, ns, rfl, SqL.of h1, beh_same q w (.bl _)⟩
    · cases e
  | [], e => simp [opBi] at e
  | _ :: _ :: _, e => simp [opBi] at e
theorem bi_max (hc : X.calm = true) : CallR X (.builtin "max") (rBi X.K .max) := by
  refine CallR.impl (CallR.or (cr_max hc) (call_max2 hc)) fun xs H Q ⟨N, μ, st, ds, d, w, hp, e, q⟩ => ?_
  match ds, e with
  | [x], e =>
    obtain ⟨v, rfl, r⟩ := paired1 hp
    simp only [opBi] at e
    split at e
    · rename_i ds e1
      obtain ⟨a, vs, rfl, h1, h2⟩ := lst_of w r e1
      split at e
      · rename_i n ns e2
        cases e
        obtain ⟨rfl, rfl⟩ := ints_of h2 e2
        refine .inl ⟨a, n :: ns, rfl, SqL.of h1, by simp, fun m hm hy => ?_⟩
        have h3 := hy _ (maxI_mem n ns)
        have h4 : m ≤ maxI n ns := by
          obtain ⟨_, g1, g2⟩ := maxI_spec n ns
          rcases List.mem_cons.mp hm with rfl | hm
          · exact g1
          · exact g2 m hm
        rw [Int.le_antisymm h4 h3]
        exact beh_same q w (.int _)
      · cases e
    · cases e
  | [.int i, .int j], e =>
    obtain ⟨v, u, rfl, r, r'⟩ := paired2 hp
    cases e
    obtain rfl := repW_int r
    obtain rfl := repW_int r'
    exact .inr ⟨i, j, rfl, beh_same q w (.int _)⟩
theorem bi_min (hc : X.calm = true) : CallR X (.builtin "min") (rBi X.K .min) := by
  refine CallR.impl (CallR.or (cr_min hc) (call_min2 hc)) fun xs H Q ⟨N, μ, st, ds, d, w, hp, e, q⟩ => ?_
  match ds, e with
  | [x], e =>
    obtain ⟨v, rfl, r⟩ := paired1 hp
    simp only [opBi] at e
    split at e
    · rename_i ds e1
      obtain ⟨a, vs, rfl, h1, h2⟩ := lst_of w r e1
      split at e
      · rename_i n ns e2
        cases e
        obtain ⟨rfl, rfl⟩ := ints_of h2 e2
        refine .inl ⟨a, n :: ns, rfl, SqL.of h1, by simp, fun m hm hy => ?_⟩
        have h3 := hy _ (minI_mem n ns)
        have h4 : minI n ns ≤ m := by
          obtain ⟨_, g1, g2⟩ := minI_spec n ns
          rcases List.mem_cons.mp hm with rfl | hm
          · exact g1
          · exact g2 m hm
        rw [Int.le_antisymm h3 h4]
        exact beh_same q w (.int _)
      · cases e
    · cases e
  | [.int i, .int j], e =>
    obtain ⟨v, u, rfl, r, r'⟩ := paired2 hp
    cases e
    obtain rfl := repW_int r
    obtain rfl := repW_int r'
    exact .inr ⟨i, j, rfl, beh_same q w (.int _)⟩
theorem bi_all_ok (hc : X.calm = true) (b : Bi) : CallR X (biV b) (rBi X.K b) := by
  cases b with
  | len => exact bi_len
  | abs => exact bi_abs
  | int => exact bi_int
  | str => exact bi_str
  | list => exact bi_list
  | tuple => exact bi_tuple
  | sorted => exact bi_sorted
  | sum => exact bi_sum hc
  | max => exact bi_max hc
  | min => exact bi_min hc
  | all => exact bi_all hc
  | any => exact bi_any hc
/-! isinstance -/
theorem ty_of {N : Addr → Prop} {μ : List Addr} {H : Hp} {v : V} {x : Dat} {u : String} (r : RepW K H N μ v x) (h : tyOf x = some u) : TyX K H v (.type u) := by
  rcases r with r | ⟨a, vs, ds, rfl, rfl, q3, q4, q5⟩
  · cases r <;> first | (cases h; done) | skip
    · cases h; exact .base .non
    · cases h; exact .base (.bl _)
    · cases h; exact .base (.int _)
    · cases h; exact .base (.str _)
    · cases h
      rename_i a xs ds h1 h2
      rcases h1 with ⟨h1, _⟩ | ⟨o, its, n, h1, h2, _⟩
      · exact .base (.tup h1)
      · exact .kTuple h1 h2
    · cases h
      exact .base (.lst ‹_›)
  · cases h
    exact .base (.lst q4)
end
end Fw
end
-- Fw6
section
set_option Elab.async false
set_option linter.all false
set_option maxRecDepth 100000
set_option maxHeartbeats 4000000
/-! Fw6: where one stands; the checker; expressions. -/
namespace Fw
open PySem PySem.Spec PyProof.Rows L2

structure Ctx where
  N : List Str
  sc : Scope
  fn : Str → Bool
  tab : List Fn
  gl : List (Str × Dat)

def spOf (K : PySem.W.Frag) (φ : List Dat → M Dat) : Sp := fun vs H Q _ => ∃ N μ st ds, WOk K H N μ st ∧ Reps K H (Fo μ N) μ vs ds ∧ post (φ ds st) (Beh K (RepS K) H N μ Q)

def bltNames : List Str := ["len", "abs", "int", "str", "list", "tuple", "sorted", "sum", "max", "min", "all", "any", "range", "zip", "enumerate", "isinstance", "bool", "set", "dict", "reversed"]

structure CtxOk (X : Cx) (Γ : Ctx) (Φ : Nat → List Dat → M Dat) (k : Nat) : Prop where
  N : X.N = Γ.N
  nd : X.N.Nodup
  sc : X.env.scope = Γ.sc
  calm : X.calm = true
  xe : X.xe = fun _ _ => False
  fn : ∀ x, Γ.fn x = true → X.fn x = true
  room : Room k X.A
  fns : ∀ (f : Nat) (fn : Fn), Γ.tab[f]? = some fn → ∃ a fd, X.mg fn.name = some (.ref a) ∧ PySem.W.keepIn X.K (.ref a) = true ∧ Binds X.K fd fn.ps [] ∧ FnOk X.prog X.w X.K X.mg X.base CX0 k a fd fn.ps (spOf X.K (Φ f))
  blt : ∀ x ∈ bltNames, X.mg x = none
  gl : ∀ x d, Γ.gl.lookup x = some d → ∃ v u, X.mg x = some u ∧ RelV v u ∧ ∀ H F μ, Rep X.K H F μ v d

/-! ### the checker -/
def isStar : Expr → Bool
  | .Starred _ _ => true
  | _ => false
def isSlice : Expr → Bool
  | .Slice _ _ _ _ => true
  | _ => false
def isSet : Expr → Bool
  | .Set _ _ _ => true
  | _ => false
def isComp : Expr → Bool
  | .ListComp .. => true
  | .SetComp .. => true
  | .DictComp .. => true
  | _ => false
def okName (x : Str) : Bool := !(x == ("__debug__" : Str)) && !(x == ("__classdict__" : Str))
def visB (Γ : Ctx) (x : Str) : Bool := match Γ.sc.names.lookup x with
  | some .local => true
  | some .cell => true
  | some .free => true
  | _ => false
def locB (Γ : Ctx) (x : Str) : Bool := match Γ.sc.names.lookup x with
  | some .local => true
  | some .cell => Γ.fn x
  | _ => false
def glB (Γ : Ctx) (x : Str) : Bool := (match Γ.sc.names.lookup x with
  | some .globalImplicit => true
  | _ => false) && okName x
def nameAt (Γ : Ctx) (i : Nat) (x : Str) : Bool := decide (Γ.N[i]? = some x)
def sameF : Dat → Dat → Bool
  | .non, .non => true
  | .int i, .int j => decide (i = j)
  | .str i, .str j => decide (i = j)
  | .bl i, .bl j => decide (i = j)
  | _, _ => false
def blk (Γ : Ctx) (s : Scope) : Ctx := { Γ with sc := relS s Γ.sc, fn := fun x => s.names.lookup x == some .cell }
def ownN (Γ : Ctx) (own : List Nat) : List (Str × Nat) := own.map fun i => (Γ.N.getD i "", i)
mutual
def chkT (Γ : Ctx) : IT → Expr → Bool
  | .var i, e => match e with
    | .Name x _ => nameAt Γ i x && locB Γ x
    | _ => false
  | .tup ts, e => match e with
    | .Tuple es _ _ => chkTs Γ ts es
    | _ => false
def chkTs (Γ : Ctx) : ITs → List Expr → Bool
  | .nil, [] => true
  | .cons t r, e :: es => !isStar e && chkT Γ t e && chkTs Γ r es
  | _, _ => false
end
mutual
def slotsT : IT → List Nat
  | .var i => [i]
  | .tup ts => slotsTs ts
def slotsTs : ITs → List Nat
  | .nil => []
  | .cons t r => slotsT t ++ slotsTs r
end
def isTupE : Expr → Bool
  | .Tuple _ _ _ => true
  | _ => false
mutual
def chk : IE → Ctx → Expr → Bool
  | .var i, Γ, e => match e with
    | .Name x _ => nameAt Γ i x && visB Γ x && okName x
    | _ => false
  | .int i, Γ, e => match e with
    | .Constant (.int j) _ _ => decide (i = j)
    | _ => false
  | .str i, Γ, e => match e with
    | .Constant (.str j) _ _ => decide (i = j)
    | _ => false
  | .bl i, Γ, e => match e with
    | .Constant (.bool j) _ _ => decide (i = j)
    | _ => false
  | .non, Γ, e => match e with
    | .Constant .none _ _ => true
    | _ => false
  | .glob x d, Γ, e => match e with
    | .Name y _ => decide (x = y) && glB Γ y && (match Γ.gl.lookup y with
      | some d' => sameF d d'
      | none => false)
    | _ => false
  | .bin o a b, Γ, e => match e with
    | .BinOp l o' r _ => decide (o = o') && chk a Γ l && chk b Γ r
    | _ => false
  | .neg a, Γ, e => match e with
    | .UnaryOp .USub x _ => chk a Γ x
    | _ => false
  | .cmp o a b, Γ, e => match e with
    | .Compare l [o'] [r] _ => decide (o = o') && chk a Γ l && chk b Γ r && !isSet r
    | _ => false
  | .chain a o b o2 c, Γ, e => match e with
    | .Compare l [o', o2'] [r, r2] _ => decide (o = o') && decide (o2 = o2') && chk a Γ l && chk b Γ r && chk c Γ r2 && !isSet r && !isSet r2 && decide (o ≠ .In) && decide (o ≠ .NotIn)
    | _ => false
  | .bool o es, Γ, e => match e with
    | .BoolOp o' xs _ => decide (o = o') && chks es Γ xs
    | _ => false
  | .not_ a, Γ, e => match e with
    | .UnaryOp .Not x _ => chk a Γ x
    | _ => false
  | .ife c a b, Γ, e => match e with
    | .IfExp t x y _ => chk c Γ t && chk a Γ x && chk b Γ y
    | _ => false
  | .call f es, Γ, e => match e with
    | .Call (.Name x _) xs [] _ => glB Γ x && chks es Γ xs && (match Γ.tab[f]? with
      | some fn => decide (fn.name = x)
      | none => false)
    | _ => false
  | .bi b es, Γ, e => match e with
    | .Call (.Name x _) (y :: xs) [] _ => decide (x = biN b) && glB Γ x && chks es Γ (y :: xs)
    | _ => false
  | .isi a t, Γ, e => match e with
    | .Call (.Name x _) [y, .Name T _] [] _ => decide (x = ("isinstance" : Str)) && glB Γ x && chk a Γ y && !isStar y && glB Γ T && decide (T = Str.ofString t) && decide (T ∈ bltNames) && decide (bootBuiltins T = some (.type t)) && decide (T ≠ "__name__")
    | _ => false
  | .ix a i, Γ, e => match e with
    | .Subscript x y _ => chk a Γ x && chk i Γ y && !isSlice y
    | _ => false
  | .sl a lo hi, Γ, e => match e with
    | .Subscript x (.Slice l h none _) _ => chk a Γ x && chkO lo Γ l && chkO hi Γ h
    | _ => false
  | .rev a, Γ, e => match e with
    | .Subscript x (.Slice none none (some (.UnaryOp .USub (.Constant (.int 1) _ _) _)) _) _ => chk a Γ x
    | _ => false
  | .tup es, Γ, e => match e with
    | .Tuple xs _ _ => chks es Γ xs
    | _ => false
  | .lst es, Γ, e => match e with
    | .List xs _ => chks es Γ xs
    | _ => false
  | .newl es, Γ, e => match e with
    | .List xs _ => chks es Γ xs
    | _ => false
  | .comp own elt t it c, Γ, e => match e with
    | .ListComp x [⟨tg, iter, ifs, 0⟩] scope _ => chkI it Γ iter && (isTupE tg || noPair it) && !isSet iter && blkC Γ.N Γ.sc scope (ownN Γ own) && (slotsT t).all (fun i => own.contains i) && chkT (blk Γ scope) t tg && chks c (blk Γ scope) ifs && chk elt (blk Γ scope) x
    | _ => false
  | .sset a, Γ, e => match e with
    | .Call (.Name x _) [.Call (.Name y _) [z] [] _] [] _ => decide (x = ("sorted" : Str)) && glB Γ x && decide (y = ("set" : Str)) && glB Γ y && chk a Γ z && !isStar z
    | _ => false
def chks : IEs → Ctx → List Expr → Bool
  | .nil, Γ, es => match es with
    | [] => true
    | _ => false
  | .cons a r, Γ, es => match es with
    | e :: es => !isStar e && chk a Γ e && chks r Γ es
    | _ => false
def chkO : IO → Ctx → Option Expr → Bool
  | .no, Γ, e => match e with
    | none => true
    | _ => false
  | .yes a, Γ, e => match e with
    | some e => chk a Γ e
    | _ => false
def chkI : II → Ctx → Expr → Bool
  | .seq a, Γ, e => chk a Γ e
  | .range1 a, Γ, e => match e with
    | .Call (.Name x _) [y] [] _ => decide (x = ("range" : Str)) && glB Γ x && chk a Γ y && !isStar y
    | _ => false
  | .range2 a b, Γ, e => match e with
    | .Call (.Name x _) [y, z] [] _ => decide (x = ("range" : Str)) && glB Γ x && chk a Γ y && chk b Γ z && !isStar y && !isStar z
    | _ => false
  | .zip a b, Γ, e => match e with
    | .Call (.Name x _) [y, z] [] _ => decide (x = ("zip" : Str)) && glB Γ x && chk a Γ y && chk b Γ z && !isStar y && !isStar z
    | _ => false
  | .enum a, Γ, e => match e with
    | .Call (.Name x _) [y] [] _ => decide (x = ("enumerate" : Str)) && glB Γ x && chk a Γ y && !isStar y
    | _ => false
def noPair : II → Bool
  | .zip _ _ => false
  | .enum _ => false
  | _ => true
end
end Fw
end
-- Fw7
section
set_option Elab.async false
set_option linter.all false
set_option maxRecDepth 100000
set_option maxHeartbeats 4000000
/-! Fw7: expressions, rule by rule. -/
namespace Fw
open PySem PySem.Spec PyProof.Rows L2

/-- the reading of a piece that may be a name of the frame's own list -/
def RepG (K : PySem.W.Frag) (own : Bool) (H : Hp) (N : Addr → Prop) (μ : List Addr) (v : V) (d : Dat) : Prop := (own = true → RepW K H N μ v d) ∧ (own = false → RepS K H N μ v d)
def rdg (K : PySem.W.Frag) (ir : IE) (f : Env → M Dat) : TE := fun σ H Q => ∃ N μ st ρ, WOk K H N μ st ∧ ER K H N μ σ ρ ∧ post (f ρ st) (Beh K (RepG K (isOwn ir ρ)) H N μ Q)
section
variable {X : Cx} {K : PySem.W.Frag} {e : Expr} {ir : IE} {f : Env → M Dat}
theorem rdg_toW (h : PE X e (rdg K ir f)) : PE X e (rd K (RepW K) f) := PE.imp h fun σ H Q ⟨N, μ, st, ρ, w, er, p⟩ => ⟨N, μ, st, ρ, w, er, post_mono p fun d s b => Beh.mono b fun H μ v d r => by
  cases q : isOwn ir ρ with
  | true => exact r.1 q
  | false => exact .inl (r.2 q)⟩
theorem rdg_toS (h : PE X e (rdg K ir f)) : PE X e (rd K (RepS K) (fun ρ => sd ir ρ (f ρ))) := PE.imp h fun σ H Q ⟨N, μ, st, ρ, w, er, p⟩ => ⟨N, μ, st, ρ, w, er, by
  have p' : post (if isOwn ir ρ then Res.err else f ρ st) (Beh K (RepS K) H N μ Q) := p
  cases q : isOwn ir ρ with
  | true => rw [q] at p'; exact p'.elim
  | false =>
    rw [q] at p'
    exact post_mono p' fun d s b => Beh.mono b fun H μ v d r => r.2 rfl⟩
theorem rdg_ofS (h : PE X e (rd K (RepS K) f)) : PE X e (rdg K ir f) := PE.imp h fun σ H Q ⟨N, μ, st, ρ, w, er, p⟩ => ⟨N, μ, st, ρ, w, er, post_mono p fun d s b => Beh.mono b fun H μ v d r => ⟨fun _ => .inl r, fun _ => r⟩⟩
theorem rd_ok {R : Hp → (Addr → Prop) → List Addr → V → Dat → Prop} {N : Addr → Prop} {μ : List Addr} {st : Store} {ρ : Env} {σ : L2.St} {H : Hp} {Q : VK} (w : WOk K H N μ st) (er : ER K H N μ σ ρ) (p : post (f ρ st) (Beh K R H N μ Q)) : rd K R f σ H Q := ⟨N, μ, st, ρ, w, er, p⟩
/-- a piece, then the rest -/
theorem rd_bind {α : Type} {R : Hp → (Addr → Prop) → List Addr → V → Dat → Prop} {g : Dat → M α} {N : Addr → Prop} {μ : List Addr} {st : Store} {ρ : Env} {σ : L2.St} {H : Hp} {P : α → Store → Prop} {Q : VK} (w : WOk K H N μ st) (er : ER K H N μ σ ρ) (p : post (mbind (f ρ) g st) P)
    (h : ∀ d s v H' μ', Eff H μ H' μ' → WOk K H' N μ' s → ER K H' N μ' σ ρ → R H' N μ' v d → post (g d s) P → Q v H') : rd K R f σ H Q :=
  ⟨N, μ, st, ρ, w, er, post_mono (post_bind p) fun d s q v H' μ' ef w' r => h d s v H' μ' ef w' (er.eff w ef) r q⟩
theorem rdA_bind {α : Type} {fA : Env → M (List Dat)} {R : Hp → (Addr → Prop) → List Addr → V → Dat → Prop} {g : List Dat → M α} {N : Addr → Prop} {μ : List Addr} {st : Store} {ρ : Env} {σ : L2.St} {H : Hp} {P : α → Store → Prop} {Q : List V → Hp → Prop} (w : WOk K H N μ st) (er : ER K H N μ σ ρ) (p : post (mbind (fA ρ) g st) P)
    (h : ∀ d s v H' μ', Eff H μ H' μ' → WOk K H' N μ' s → ER K H' N μ' σ ρ → Paired (R H' N μ') v d → post (g d s) P → Q v H') : rdA K R fA σ H Q :=
  ⟨N, μ, st, ρ, w, er, post_mono (post_bind p) fun d s q v H' μ' ef w' r => h d s v H' μ' ef w' (er.eff w ef) r q⟩
end
section
variable {X : Cx} {Γ : Ctx} {Φ : Nat → List Dat → M Dat} {k : Nat}

/-! names and constants -/
theorem CtxOk.at {i : Nat} {x : Str} (C : CtxOk X Γ Φ k) (h : nameAt Γ i x = true) : X.N[i]? = some x := by rw [C.N]; exact of_decide_eq_true h
theorem CtxOk.vis {x : Str} (C : CtxOk X Γ Φ k) (h : visB Γ x = true) : Vis X.env.scope x := by
  unfold visB at h
  rw [← C.sc] at h
  split at h
  · exact .inl ‹_›
  · exact .inr (.inl ‹_›)
  · exact .inr (.inr ‹_›)
  · cases h
theorem okName_of {x : Str} (h : okName x = true) : (x == ("__debug__" : Str)) = false ∧ (x == ("__classdict__" : Str)) = false := by
  unfold okName at h
  simpa using h
theorem CtxOk.gl_ {x : Str} (C : CtxOk X Γ Φ k) (h : glB Γ x = true) : Gl X x ∧ (x == ("__debug__" : Str)) = false := by
  unfold glB at h
  rw [Bool.and_eq_true] at h
  refine ⟨?_, (okName_of h.2).1⟩
  have h1 := h.1
  rw [← C.sc] at h1
  cases q : X.env.scope.names.lookup x with
  | none => rw [q] at h1; cases h1
  | some kk => rw [q] at h1; cases kk <;> first | exact q | cases h1
theorem s_var {i : Nat} {x : Str} {pos : Pos} (C : CtxOk X Γ Φ k) (h1 : nameAt Γ i x = true) (h2 : visB Γ x = true) (h3 : okName x = true) : PE X (.Name x pos) (rdg X.K (.var i) (den Φ (.var i))) := by
  refine PE.imp (pe_var (C.at h1) (C.vis h2) (okName_of h3).1 (okName_of h3).2) fun σ H Q ⟨N, μ, st, ρ, w, er, p⟩ => ?_
  have p' : post ((match ρ[i]? with
    | some (.v d) => mpure d
    | some (.o ds) => mpure (.lst ds)
    | _ => merr : M Dat) st) (Beh X.K (RepG X.K (match ρ[i]? with
    | some (.v _) => false
    | _ => true)) H N μ Q) := p
  cases e : ρ[i]? with
  | none => rw [e] at p'; exact p'.elim
  | some sl =>
    rw [e] at p'
    cases sl with
    | un => exact p'.elim
    | v d =>
      obtain ⟨v, q1, q2⟩ := er.2 i _ e
      exact ⟨v, q1, p' v H μ Eff.refl w ⟨fun z => (nomatch z), fun _ => q2⟩⟩
    | o ds =>
      obtain ⟨a, vs, q1, q2, q3, q4⟩ := er.2 i _ e
      exact ⟨.ref a, q1, p' (.ref a) H μ Eff.refl w ⟨fun _ => .inr ⟨a, vs, ds, rfl, rfl, q2, q3, q4⟩, fun z => (nomatch z)⟩⟩
theorem s_const {v : V} {d : Dat} {ir : IE} {e : Expr} (h : PE X e (tC v)) (hr : ∀ H F μ, Rep X.K H F μ v d) : PE X e (rdg X.K ir (fun _ => mpure d)) := by
  refine rdg_ofS (PE.imp h fun σ H Q ⟨N, μ, st, ρ, w, er, p⟩ => ?_)
  exact p v H μ Eff.refl w (hr _ _ _)
/-! operators -/
theorem s_bin {o : Operator} {a b : IE} {l r : Expr} {pos : Pos} (ha : PE X l (rdg X.K a (den Φ a))) (hb : PE X r (rdg X.K b (den Φ b))) : PE X (.BinOp l o r pos) (rdg X.K (.bin o a b) (den Φ (.bin o a b))) := by
  obtain ⟨rr, ho, hi⟩ := bin_all (X := X) o
  refine rdg_ofS (PE.imp (pe_op ho (rdg_toW ha) (rdg_toW hb)) fun σ H Q ⟨N, μ, st, ρ, w, er, p⟩ => ?_)
  refine rd_bind w er p fun x s v H1 μ1 ef w1 er1 r1 p1 => ?_
  refine rd_bind w1 er1 p1 fun y s2 u H2 μ2 ef2 w2 er2 r2 p2 => ?_
  obtain ⟨d, e, q⟩ := post_mo p2
  exact hi N μ2 s2 H2 v u x y d Q w2 (r1.eff w1 ef2) r2 e (Beh.eff q (ef.trans ef2))
theorem s_neg {a : IE} {x : Expr} {pos : Pos} (ha : PE X x (rdg X.K a (den Φ a))) : PE X (.UnaryOp .USub x pos) (rdg X.K (.neg a) (den Φ (.neg a))) := by
  refine rdg_ofS (PE.imp (pe_un un_neg (rdg_toW ha)) fun σ H Q ⟨N, μ, st, ρ, w, er, p⟩ => ?_)
  refine rd_bind w er p fun x s v H1 μ1 ef w1 er1 r1 p1 => ?_
  obtain ⟨d, e, q⟩ := post_mo p1
  cases x <;> first | (cases e; done) | skip
  cases e
  exact ⟨_, repW_int r1, beh_same (Beh.eff q ef) w1 (.int _)⟩
theorem marks_of {r : Expr} (o : CmpOp) (h : isSet r = false) : behindInMarks o r = false := by cases r <;> first | rfl | cases h
theorem imp_cmp {o : CmpOp} {a b : IE} {rr : R2} (hi : ImpC X.K rr (fun st x y => opCmp st o x y)) {σ : L2.St} {H : Hp} {Q : VK} (h : rd X.K (RepS X.K) (den Φ (.cmp o a b)) σ H Q) : tOp rr (rd X.K (RepW X.K) (den Φ a)) (rd X.K (RepW X.K) (den Φ b)) σ H Q := by
  obtain ⟨N, μ, st, ρ, w, er, p⟩ := h
  refine rd_bind w er p fun x s v H1 μ1 ef w1 er1 r1 p1 => ?_
  refine rd_bind w1 er1 p1 fun y s2 u H2 μ2 ef2 w2 er2 r2 p2 => ?_
  obtain ⟨d, e1, q⟩ := post_mr p2
  obtain ⟨kk, e2, rfl⟩ := Option.map_eq_some_iff.mp e1
  exact hi N μ2 s2 H2 v u x y kk Q w2 (r1.eff w1 ef2) r2 e2 (beh_same (Beh.eff q (ef.trans ef2)) w2 (.bl _))
/-- a test by its value -/
def asT (f : Env → M Dat) : Env → M Bool := fun ρ => mbind (f ρ) fun x => mo (asBl x)
theorem rdt_rd {f : Env → M Dat} {K : PySem.W.Frag} {σ : L2.St} {H : Hp} {Q : Bool → Hp → Prop} (h : rdt K (asT f) σ H Q) : rd K (RepS K) f σ H fun x H' => ∃ c, x = .bl c ∧ Q c H' := by
  obtain ⟨N, μ, st, ρ, w, er, p⟩ := h
  refine ⟨N, μ, st, ρ, w, er, post_mono (post_bind p) fun d s q v H' μ' ef w' r => ?_⟩
  obtain ⟨b, e, q⟩ := post_mo q
  cases d <;> first | (cases e; done) | skip
  cases e
  cases r
  exact ⟨_, rfl, q H' μ' ef w'⟩
theorem rdt_rdg {f : Env → M Dat} {K : PySem.W.Frag} {ir : IE} {σ : L2.St} {H : Hp} {Q : Bool → Hp → Prop} (h : rdt K (asT f) σ H Q) : rdg K ir f σ H fun x H' => ∃ c, x = .bl c ∧ Q c H' := by
  obtain ⟨N, μ, st, ρ, w, er, p⟩ := h
  refine ⟨N, μ, st, ρ, w, er, post_mono (post_bind p) fun d s q v H' μ' ef w' r => ?_⟩
  obtain ⟨b, e, q⟩ := post_mo q
  have rw_ : RepW K H' N μ' v d := by
    cases z : isOwn ir ρ with
    | true => exact r.1 z
    | false => exact .inl (r.2 z)
  cases d <;> first | (cases e; done) | skip
  cases e
  exact ⟨_, repW_bl rw_, q H' μ' ef w'⟩
theorem s_cmp {o : CmpOp} {a b : IE} {l r : Expr} {pos : Pos} (C : CtxOk X Γ Φ k) (hm : behindInMarks o r = false) (ha : PE X l (rdg X.K a (den Φ a))) (hb : PE X r (rdg X.K b (den Φ b))) : PE X (.Compare l [o] [r] pos) (rdg X.K (.cmp o a b) (den Φ (.cmp o a b))) := by
  obtain ⟨rr, ho, hi⟩ := cmp_all (X := X) C.room.units o
  exact rdg_ofS (PE.imp (pe_cmpR ho (rdg_toW ha) (rdg_toW hb) hm) fun σ H Q h => imp_cmp hi h)
theorem t_cmp {o : CmpOp} {a b : IE} {l r : Expr} {pos : Pos} (C : CtxOk X Γ Φ k) (hm : behindInMarks o r = false) (ha : PE X l (rdg X.K a (den Φ a))) (hb : PE X r (rdg X.K b (den Φ b))) : PT X (.Compare l [o] [r] pos) (rdt X.K (asT (den Φ (.cmp o a b)))) := by
  obtain ⟨rr, ho, hi⟩ := cmp_all (X := X) C.room.units o
  exact PT.imp (pt_cmpR ho (rdg_toW ha) (rdg_toW hb) hm) fun σ H Q h => imp_cmp hi (rdt_rd h)
theorem imp_chain {o o2 : CmpOp} {a b c : IE} {rr rr2 : R2} (hi : ImpC X.K rr (fun st x y => opCmp st o x y)) (hi2 : ImpC X.K rr2 (fun st x y => opCmp st o2 x y)) {σ : L2.St} {H : Hp} {Q : VK} (h : rd X.K (RepS X.K) (den Φ (.chain a o b o2 c)) σ H Q) :
    tChain rr rr2 (rd X.K (RepW X.K) (den Φ a)) (rd X.K (RepW X.K) (den Φ b)) (rd X.K (RepW X.K) (den Φ c)) σ H Q := by
  obtain ⟨N, μ, st, ρ, w, er, p⟩ := h
  refine rd_bind w er p fun x s v H1 μ1 ef w1 er1 r1 p1 => ?_
  refine rd_bind w1 er1 p1 fun y s2 u H2 μ2 ef2 w2 er2 r2 p2 => ?_
  have p3 := post_bind p2
  obtain ⟨kk, e, q⟩ := post_mr p3
  refine hi N μ2 s2 H2 v u x y kk _ w2 (r1.eff w1 ef2) r2 e ⟨kk, rfl, ?_⟩
  cases kk with
  | false =>
    rw [if_neg Bool.false_ne_true]
    rw [if_neg Bool.false_ne_true] at q
    exact q _ H2 μ2 (ef.trans ef2) w2 (.bl _)
  | true =>
    rw [if_pos rfl]
    rw [if_pos rfl] at q
    refine rd_bind w2 er2 q fun z s3 t H3 μ3 ef3 w3 er3 r3 p3 => ?_
    obtain ⟨d, e1, q⟩ := post_mr p3
    obtain ⟨kk, e2, rfl⟩ := Option.map_eq_some_iff.mp e1
    exact hi2 N μ3 s3 H3 u t y z kk Q w3 (r2.eff w2 ef3) r3 e2 (beh_same (Beh.eff q ((ef.trans ef2).trans ef3)) w3 (.bl _))
theorem lm_of {r r2 : Expr} {o o2 : CmpOp} (hm2 : isSet r2 = false) : lastMarks [o, o2] [r, r2] = false := marks_of o2 hm2
theorem s_chain {o o2 : CmpOp} {a b c : IE} {l r r2 : Expr} {pos : Pos} (C : CtxOk X Γ Φ k) (hm2 : isSet r2 = false)
    (ha : PE X l (rdg X.K a (den Φ a))) (hb : PE X r (rdg X.K b (den Φ b))) (hc : PE X r2 (rdg X.K c (den Φ c))) : PE X (.Compare l [o, o2] [r, r2] pos) (rdg X.K (.chain a o b o2 c) (den Φ (.chain a o b o2 c))) := by
  obtain ⟨rr, ho, hi⟩ := cmp_all (X := X) C.room.units o
  obtain ⟨rr2, ho2, hi2⟩ := cmp_all (X := X) C.room.units o2
  exact rdg_ofS (PE.imp (pe_chain ho ho2 (rdg_toW ha) (rdg_toW hb) (rdg_toW hc) (lm_of hm2)) fun σ H Q h => imp_chain hi hi2 h)
theorem t_chain {o o2 : CmpOp} {a b c : IE} {l r r2 : Expr} {pos : Pos} (C : CtxOk X Γ Φ k) (hm2 : isSet r2 = false)
    (ha : PE X l (rdg X.K a (den Φ a))) (hb : PE X r (rdg X.K b (den Φ b))) (hc : PE X r2 (rdg X.K c (den Φ c))) : PT X (.Compare l [o, o2] [r, r2] pos) (rdt X.K (asT (den Φ (.chain a o b o2 c)))) := by
  obtain ⟨rr, ho, hi⟩ := cmp_all (X := X) C.room.units o
  obtain ⟨rr2, ho2, hi2⟩ := cmp_all (X := X) C.room.units o2
  exact PT.imp (pt_chain ho ho2 (rdg_toW ha) (rdg_toW hb) (rdg_toW hc) (lm_of hm2)) fun σ H Q h => imp_chain hi hi2 (rdt_rd h)
/-! not, and, or, if -/
theorem s_not {a : IE} {x : Expr} {pos : Pos} (ha : PE X x (rdg X.K a (den Φ a))) : PE X (.UnaryOp .Not x pos) (rdg X.K (.not_ a) (den Φ (.not_ a))) := by
  refine rdg_ofS (PE.imp (pe_not (rdg_toW ha)) fun σ H Q ⟨N, μ, st, ρ, w, er, p⟩ => ?_)
  refine rd_bind w er p fun x s v H1 μ1 ef w1 er1 r1 p1 => ?_
  obtain ⟨d, e, q⟩ := post_mo p1
  cases x <;> first | (cases e; done) | skip
  cases e
  exact ⟨_, repW_bl r1, beh_same (Beh.eff q ef) w1 (.bl _)⟩
theorem rdt_bind {α : Type} {f : Env → M Dat} {K : PySem.W.Frag} {g : Bool → M α} {N : Addr → Prop} {μ : List Addr} {st : Store} {ρ : Env} {σ : L2.St} {H : Hp} {P : α → Store → Prop} {Q : Bool → Hp → Prop} (w : WOk K H N μ st) (er : ER K H N μ σ ρ) (p : post (mbind (f ρ) (fun x => mbind (mo (asBl x)) g) st) P)
    (h : ∀ d s H' μ', Eff H μ H' μ' → WOk K H' N μ' s → ER K H' N μ' σ ρ → post (g d s) P → Q d H') : rdt K (asT f) σ H Q := by
  refine ⟨N, μ, st, ρ, w, er, ?_⟩
  unfold asT
  have q := post_bind p
  unfold mbind
  cases e : f ρ st with
  | exc x s => rw [e] at q; exact q.elim
  | err => rw [e] at q; exact q.elim
  | ok x s =>
    rw [e] at q
    have q1 := post_bind (show post (mbind (mo (asBl x)) g s) P from q)
    show post (mo (asBl x) s) _
    unfold mo at q1 ⊢
    cases eb : asBl x with
    | none => rw [eb] at q1; exact q1.elim
    | some b =>
      rw [eb] at q1
      exact fun H' μ' ef w' => h b s H' μ' ef w' (er.eff w ef) q1
theorem t_not {a : IE} {x : Expr} {pos : Pos} (ha : PT X x (rdt X.K (asT (den Φ a)))) : PT X (.UnaryOp .Not x pos) (rdt X.K (asT (den Φ (.not_ a)))) := by
  refine PT.imp (pt_not ha) fun σ H Q ⟨N, μ, st, ρ, w, er, p⟩ => ?_
  refine ⟨N, μ, st, ρ, w, er, ?_⟩
  have p' : post (mbind (mbind (den Φ a ρ) fun x => mo ((asBl x).map fun b => .bl (!b))) (fun x => mo (asBl x)) st) _ := p
  unfold asT
  unfold mbind at p' ⊢
  cases e : den Φ a ρ st with
  | exc x s => rw [e] at p'; exact p'.elim
  | err => rw [e] at p'; exact p'.elim
  | ok x s =>
    rw [e] at p'
    simp only [mo] at p' ⊢
    cases eb : asBl x with
    | none => rw [eb] at p'; exact p'.elim
    | some b => rw [eb] at p'; exact p'
theorem s_ife {c a b : IE} {t x y : Expr} {pos : Pos} (hc : PT X t (rdt X.K (asT (den Φ c)))) (ha : PE X x (rdg X.K a (den Φ a))) (hb : PE X y (rdg X.K b (den Φ b))) : PE X (.IfExp t x y pos) (rdg X.K (.ife c a b) (den Φ (.ife c a b))) := by
  refine rdg_ofS (PE.imp (pe_ifExp hc (rdg_toS ha) (rdg_toS hb)) fun σ H Q ⟨N, μ, st, ρ, w, er, p⟩ => ?_)
  refine rdt_bind w er p fun kk s H1 μ1 ef w1 er1 p1 => ?_
  cases kk with
  | true =>
    rw [if_pos rfl] at p1 ⊢
    exact ⟨N, μ1, s, ρ, w1, er1, post_mono p1 fun d s q => Beh.eff q ef⟩
  | false =>
    rw [if_neg Bool.false_ne_true] at p1 ⊢
    exact ⟨N, μ1, s, ρ, w1, er1, post_mono p1 fun d s q => Beh.eff q ef⟩
theorem s_b1 {o : BoolOp} {a : IE} {x : Expr} {pos : Pos} (ha : PE X x (rdg X.K a (den Φ a))) : PE X (.BoolOp o [x] pos) (rd X.K (RepS X.K) (denB Φ o (.cons a .nil))) := by
  refine PE.imp (pe_one (rdg_toW ha)) fun σ H Q ⟨N, μ, st, ρ, w, er, p⟩ => ?_
  have p' : post (mbind (den Φ a ρ) (fun d => mo ((asBl d).map Dat.bl)) st) (Beh X.K (RepS X.K) H N μ Q) := by cases o <;> exact p
  refine rd_bind w er p' fun x s v H1 μ1 ef w1 er1 r1 p1 => ?_
  obtain ⟨d, e, q⟩ := post_mo p1
  cases x <;> first | (cases e; done) | skip
  cases e
  obtain rfl := repW_bl r1
  exact beh_same (Beh.eff q ef) w1 (.bl _)
theorem s_bAnd {a b : IE} {r : IEs} {x y : Expr} {ys : List Expr} {pos : Pos} (ha : PE X x (rdg X.K a (den Φ a))) (hb : PE X (.BoolOp .And (y :: ys) pos) (rd X.K (RepS X.K) (denB Φ .And (.cons b r)))) :
    PE X (.BoolOp .And (x :: y :: ys) pos) (rd X.K (RepS X.K) (denB Φ .And (.cons a (.cons b r)))) := by
  refine PE.imp (pe_and (rdg_toW ha) hb) fun σ H Q ⟨N, μ, st, ρ, w, er, p⟩ => ?_
  refine rd_bind w er p fun x s v H1 μ1 ef w1 er1 r1 p1 => ?_
  obtain ⟨kk, e, q⟩ := post_mo (post_bind p1)
  cases x <;> first | (cases e; done) | skip
  cases e
  refine ⟨_, repW_bl r1, ?_⟩
  split at q
  · rename_i h
    rw [if_pos h]
    exact ⟨N, μ1, s, ρ, w1, er1, post_mono q fun d s q => Beh.eff q ef⟩
  · rename_i h
    rw [if_neg h]
    exact beh_same (Beh.eff q ef) w1 (.bl _)
theorem s_bOr {a b : IE} {r : IEs} {x y : Expr} {ys : List Expr} {pos : Pos} (ha : PE X x (rdg X.K a (den Φ a))) (hb : PE X (.BoolOp .Or (y :: ys) pos) (rd X.K (RepS X.K) (denB Φ .Or (.cons b r)))) :
    PE X (.BoolOp .Or (x :: y :: ys) pos) (rd X.K (RepS X.K) (denB Φ .Or (.cons a (.cons b r)))) := by
  refine PE.imp (pe_or (rdg_toW ha) hb) fun σ H Q ⟨N, μ, st, ρ, w, er, p⟩ => ?_
  refine rd_bind w er p fun x s v H1 μ1 ef w1 er1 r1 p1 => ?_
  obtain ⟨kk, e, q⟩ := post_mo (post_bind p1)
  cases x <;> first | (cases e; done) | skip
  cases e
  refine ⟨_, repW_bl r1, ?_⟩
  split at q
  · rename_i h
    rw [if_pos h]
    exact beh_same (Beh.eff q ef) w1 (.bl _)
  · rename_i h
    rw [if_neg h]
    exact ⟨N, μ1, s, ρ, w1, er1, post_mono q fun d s q => Beh.eff q ef⟩
theorem tb1 {o : BoolOp} {a : IE} {x : Expr} {pos : Pos} (ha : PT X x (rdt X.K (asT (den Φ a)))) : PW X (.BoolOp o [x] pos) (rdt X.K (asT (denB Φ o (.cons a .nil)))) := by
  have h : PW X (.BoolOp o [x] pos) (rdt X.K (asT (den Φ a))) := by cases o; exact pw_and1 ha; exact pw_or1 ha
  refine PW.imp h fun σ H Q ⟨N, μ, st, ρ, w, er, p⟩ => ⟨N, μ, st, ρ, w, er, ?_⟩
  have p' : post (mbind (mbind (den Φ a ρ) fun d => mo ((asBl d).map Dat.bl)) (fun x => mo (asBl x)) st) (fun b st' => ∀ (H' : Hp) (μ' : List Addr), Eff H μ H' μ' → WOk X.K H' N μ' st' → Q b H') := by cases o <;> exact p
  unfold asT
  unfold mbind at p' ⊢
  cases e : den Φ a ρ st with
  | exc x s => rw [e] at p'; exact p'.elim
  | err => rw [e] at p'; exact p'.elim
  | ok x s =>
    rw [e] at p'
    simp only [mo] at p' ⊢
    cases eb : asBl x with
    | none => rw [eb] at p'; exact p'.elim
    | some b => rw [eb] at p'; exact p'
theorem bindbind {α β γ : Type} {m : M α} {f : α → M β} {g : β → M γ} : mbind (mbind m f) g = mbind m fun a => mbind (f a) g := by
  funext st
  unfold mbind
  cases m st <;> rfl
theorem tbAnd {a b : IE} {r : IEs} {x y : Expr} {ys : List Expr} {pos : Pos} (ha : PT X x (rdt X.K (asT (den Φ a)))) (hb : PW X (.BoolOp .And (y :: ys) pos) (rdt X.K (asT (denB Φ .And (.cons b r))))) :
    PW X (.BoolOp .And (x :: y :: ys) pos) (rdt X.K (asT (denB Φ .And (.cons a (.cons b r))))) := by
  refine PW.imp (pw_and ha hb) fun σ H Q ⟨N, μ, st, ρ, w, er, p⟩ => ?_
  have p' : post (mbind (mbind (den Φ a ρ) fun d => mbind (mo (asBl d)) fun k => if k then denB Φ .And (.cons b r) ρ else mpure (.bl false)) (fun x => mo (asBl x)) st) _ := p
  rw [bindbind] at p'
  have e : (fun d => mbind (mbind (mo (asBl d)) fun k => if k = true then denB Φ .And (.cons b r) ρ else mpure (.bl false)) fun x => mo (asBl x)) = fun d => mbind (mo (asBl d)) fun k => mbind (if k = true then denB Φ .And (.cons b r) ρ else mpure (.bl false)) fun x => mo (asBl x) := by
    funext d
    rw [bindbind]
  rw [e] at p'
  refine rdt_bind w er p' fun kk s H1 μ1 ef w1 er1 p1 => ?_
  cases kk with
  | true =>
    rw [if_pos rfl] at p1 ⊢
    exact ⟨N, μ1, s, ρ, w1, er1, post_mono p1 fun d s q H' μ' ef' w' => q H' μ' (ef.trans ef') w'⟩
  | false =>
    rw [if_neg Bool.false_ne_true] at p1 ⊢
    exact p1 H1 μ1 ef w1
theorem tbOr {a b : IE} {r : IEs} {x y : Expr} {ys : List Expr} {pos : Pos} (ha : PT X x (rdt X.K (asT (den Φ a)))) (hb : PW X (.BoolOp .Or (y :: ys) pos) (rdt X.K (asT (denB Φ .Or (.cons b r))))) :
    PW X (.BoolOp .Or (x :: y :: ys) pos) (rdt X.K (asT (denB Φ .Or (.cons a (.cons b r))))) := by
  refine PW.imp (pw_or ha hb) fun σ H Q ⟨N, μ, st, ρ, w, er, p⟩ => ?_
  have p' : post (mbind (mbind (den Φ a ρ) fun d => mbind (mo (asBl d)) fun k => if k then mpure (.bl true) else denB Φ .Or (.cons b r) ρ) (fun x => mo (asBl x)) st) _ := p
  rw [bindbind] at p'
  have e : (fun d => mbind (mbind (mo (asBl d)) fun k => if k = true then mpure (.bl true) else denB Φ .Or (.cons b r) ρ) fun x => mo (asBl x)) = fun d => mbind (mo (asBl d)) fun k => mbind (if k = true then mpure (.bl true) else denB Φ .Or (.cons b r) ρ) fun x => mo (asBl x) := by
    funext d
    rw [bindbind]
  rw [e] at p'
  refine rdt_bind w er p' fun kk s H1 μ1 ef w1 er1 p1 => ?_
  cases kk with
  | true =>
    rw [if_pos rfl] at p1 ⊢
    exact p1 H1 μ1 ef w1
  | false =>
    rw [if_neg Bool.false_ne_true] at p1 ⊢
    exact ⟨N, μ1, s, ρ, w1, er1, post_mono p1 fun d s q H' μ' ef' w' => q H' μ' (ef.trans ef') w'⟩
/-- a test that is none of these -/
theorem t_val {ir : IE} {e : Expr} {f : Env → M Dat} (h : PE X e (rdg X.K ir f)) (he : ∀ whole, isTrue e X.env whole = (do let v ← whole; standAt e.pos; holding [v] (truthy v))) : PT X e (rdt X.K (asT f)) := PT.imp (pt_val h he) fun σ H Q q => rdt_rdg q
end
end Fw
end
-- FwE1
section
set_option Elab.async false
set_option linter.all false
set_option maxRecDepth 100000
set_option maxHeartbeats 4000000
/-! FwE1: enumerate over a tuple. -/
namespace FwE
open PySem PySem.Spec PyProof.Rows L2
open AutoSeq1 (wpAny_loadPart')
theorem meets_enumerate_newT (l : Addr) (items : Array Value) (n : Nat) (dct : Option Addr) (sl : Array (Option Value)) :
    Meets (Builtin.«enumerate.__new__» ⟨[.type "enumerate", .ref l], []⟩) (fun _ R s => s.heap.get? l = some { cls := .type "tuple", dict := dct, data := .seq items n, slots := sl } ∧
      R (.ok (.ret (.ref (s.heap.push { cls := .type "tuple_iterator", data := .fields #[.ref l, .int 0 0] }).objs.size)))
        { s with heap := (s.heap.push { cls := .type "tuple_iterator", data := .fields #[.ref l, .int 0 0] }).push { cls := .type "enumerate", data := .fields #[.none, .bool false, .ref s.heap.objs.size, rawInt 0, .none, .none] } }) :=
  .of_wp fun prog w A R s h => by
    obtain ⟨hp, g, d, tk, os⟩ := s; obtain ⟨hl, h⟩ := h
    have hsub := sub_enumerate
    have hL : Heap.IsTuple (Shared.heap ⟨hp, g, d, tk, os⟩) l items := ⟨_, hl, rfl, n, rfl⟩
    wp_walk using wpAny_loadPart' hl
    refine wpAny_stack_any fun st => wpAny_pure ?_
    split
    · rename_i c _ _ _ _ _
      cases (c == Value.type "enumerate")
      · wp_walk using wpAny_loadPart' hl, wpAny_pyIter_tuple hL
        exact ⟨_, rfl, h⟩
      · wp_walk using wpAny_loadPart' hl, wpAny_pyIter_tuple hL
        exact ⟨_, rfl, h⟩
    · wp_walk using wpAny_loadPart' hl, wpAny_pyIter_tuple hL
      exact ⟨_, rfl, h⟩
section
variable {prog : Program} {w : World} {A : Around} {E : Value → Shared → Prop} {s : Shared}
theorem call_enumerate_tuple {l : Addr} {items : Array Value} {Q : Value → Shared → Prop} (hL : s.heap.IsTuple l items)
    (h : ∀ h', IsEnum h' (s.heap.objs.size + 1) s.heap.objs.size 0 .none → h'.IsTupleIter s.heap.objs.size l 0 → h'.objs.size = s.heap.objs.size + 2 →
      (∀ b o, s.heap.get? b = some o → h'.get? b = some o) → Q (.ref (s.heap.objs.size + 1)) { s with heap := h' }) :
    wpAny (model prog w) A (call (.type "enumerate") [.ref l]) Q E s := by
  obtain ⟨⟨c, dct, dt, sl⟩, hl, hc, n, hd⟩ := hL
  replace hc : c = .type "tuple" := hc
  replace hd : dt = .seq items n := hd
  subst hc hd
  refine callType_new F.called_enumerate (by decide) (F.typeCall_enumerate_1 _) (F.newCall_enumerate_1 _) (fun obj => F.args_object_init_2 obj _) F.entry_enumerate_new
    (meets_enumerate_newT l items n dct sl) ⟨hl, ?_⟩
  have hz : (s.heap.push { cls := .type "tuple_iterator", data := .fields #[.ref l, .int 0 0] }).objs.size = s.heap.objs.size + 1 := Heap.size_push ..
  show _ ∧ _
  rw [hz]
  have he : IsEnum ((s.heap.push { cls := .type "tuple_iterator", data := .fields #[.ref l, .int 0 0] }).push
      { cls := .type "enumerate", data := .fields #[.none, .bool false, .ref s.heap.objs.size, rawInt 0, .none, .none] }) (s.heap.objs.size + 1) s.heap.objs.size 0 .none := by
    have := Heap.get?_push_size (s.heap.push { cls := .type "tuple_iterator", data := .fields #[.ref l, .int 0 0] })
      (o := { cls := .type "enumerate", data := .fields #[.none, .bool false, .ref s.heap.objs.size, rawInt 0, .none, .none] }) rfl
    rw [hz] at this; exact this
  refine ⟨⟨_, he, rfl⟩, h _ he ⟨_, Heap.get?_push_of_some _ (Heap.get?_push_size _ rfl), rfl, rfl⟩ (by rw [Heap.size_push, hz]) fun b o x => Heap.get?_push_of_some _ (Heap.get?_push_of_some _ x)⟩
end
def IteT (K : PySem.W.Frag) (a : Addr) : It :=
  ⟨fun i H => ∃ (xs : List V) (x : V), SqT K H a xs ∧ xs[i]? = some x, fun i H v H' => ∃ T x, v = .ref T ∧ H T = none ∧ H' = upd H T (.tup [.int (i : Nat), x]) ∧ ∀ xs, SqT K H a xs → xs[i]? = some x, fun i H => ∃ xs : List V, SqT K H a xs ∧ xs.length ≤ i⟩
theorem turn_enumT {P : Program} {w : World} {K : PySem.W.Frag} {elts : List Expr} {kk : Nat} {tpos : Pos} (a e it : Addr) (hae : a ≠ it) :
    Turn P w K (.Tuple elts kk tpos) (IteT K a) [e, it] e (fun i h => (∃ old, IsEnum h e it ((i : Nat) : Int) old) ∧ h.IsTupleIter it a i ∧ e ≠ it) where
  mem := by simp
  obj := fun i h st b hb => by
    obtain ⟨⟨old, he⟩, ⟨o, ho, hc, hd⟩, _⟩ := st
    have e' : b = e ∨ b = it := by simpa using hb
    rcases e' with z | z
    · rw [z]; exact ⟨_, he, fun v q => nomatch q⟩
    · rw [z]; exact ⟨o, ho, fun v q => by rw [hd] at q; cases q⟩
  keep := fun i h h' st k => let ⟨⟨old, he⟩, hi, hne⟩ := st; ⟨⟨old, k e (by simp) _ he⟩, hi.at fun o q => k it (by simp) o q, hne⟩
  item := by
    intro X hP hw hK hc i pins s σ H E I hf st hg
    subst hP hw hK
    obtain ⟨⟨old, he⟩, hit, hne⟩ := st
    obtain ⟨xs, x, hq, hx⟩ := hg
    obtain ⟨its, rv, p, hz⟩ := I.tuple hq
    obtain ⟨u, hu, ru⟩ := rv.get hx
    have hel : e < s.heap.objs.size := Heap.lt_size he
    have hil : it < s.heap.objs.size := by obtain ⟨_, q, _⟩ := hit; exact Heap.lt_size q
    have hlt : i < its.toArray.size := by
      have := (List.getElem?_eq_some_iff.mp hu).1
      simpa using this
    have hTa : e ∉ [it, a] := by
      have : e ≠ a := fun z => by
        obtain ⟨o, ho, hcl, _⟩ := p
        rw [← z] at ho
        have he2 : s.heap.get? e = some _ := he
        rw [he2] at ho
        cases ho
        injection hcl with z2
        exact absurd z2 (by decide)
      simp [hne, this]
    refine wpAny_pyNext_enum_itemD (fp := [it, a]) (Draws.tuple (A := X.A.in1) (show X.A.in1.handled = none from I.ok.hd hc) it a hae its.toArray) he ⟨hit, p⟩ hlt hne hTa fun x' h' tk hPx ho hst' hT hsz hk => ?_
    have hxu : x' = u := by
      have h1 : its.toArray[i]? = some x' := hPx
      simp at h1
      rw [hu] at h1
      exact (Option.some.inj h1).symm
    subst hxu
    refine ⟨_, rfl, wpAny_letOwnedTupleGo_enum (s := { s with heap := h', toks := tk + 1 }) ho fun h'' he' sb => ?_⟩
    have hT2 : h''.get? s.heap.objs.size = some { cls := .type "tuple", data := .seq #[.int i tk, x'] } := (sb.2 _ (Nat.ne_of_gt hel)).trans hT
    have new : ObjOk X.prog X.w (upd H s.heap.objs.size (.tup [.int (i : Nat), x])) h'' s.heap.objs.size (.tup [.int (i : Nat), x]) :=
      ⟨by show 2 ≤ sizeLine; decide, [.int i tk, x'], .cons ⟨_, rfl⟩ (.cons ru .nil), ⟨_, hT2, rfl, _, rfl⟩⟩
    have I1 : Inv X pins σ (upd H s.heap.objs.size (.tup [.int (i : Nat), x])) { s with heap := h'', toks := tk + 1 } :=
      I.turnedNew (ch := [e, it]) (fun b ob hb q => (sb.2 b (fun z => hb (by simp [z]))).trans (hk b ob (fun z => hb (by simp [z])) (fun z => hb (by simp [z])) q)) hf (Nat.le_refl _) new
    refine ⟨.ref s.heap.objs.size, _, I1, rfl, ⟨_, x, rfl, I.hok.fresh (Nat.le_refl _), rfl, fun ys hy => by rw [I.tuple_inj hy hq]; exact hx⟩, ⟨⟨x', ?_⟩, hst'.1.at fun o q => (sb.2 it (Ne.symm hne)).trans q, hne⟩, fun b hb => ?_⟩
    · have e1 : ((i + 1 : Nat) : Int) = (i : Int) + 1 := by omega
      rw [e1]; exact he'
    · have hb' : b < s.heap.objs.size := by
        have e' : b = e ∨ b = it := by simpa using hb
        rcases e' with z | z
        · rw [z]; exact hel
        · rw [z]; exact hil
      rw [upd_ne (Nat.ne_of_lt hb')]
      exact (hf b hb).1
  done := by
    intro X hP hw hK hc i pins s σ H E I hf st hg
    subst hP hw hK
    obtain ⟨⟨old, he⟩, hit, hne⟩ := st
    obtain ⟨xs, hq, hx⟩ := hg
    obtain ⟨its, rv, p, hz⟩ := I.tuple hq
    obtain ⟨f0, f1, f2, f3, f4, f5⟩ := hf it (by simp)
    have hl := rv.length
    have hT : s.TypeIs (.ref e) "enumerate" := ⟨_, he, rfl⟩
    unfold pyNext
    refine wpAny_bind (wpAny_attempt (wpAny_callSpecial?_slot (name := Str.ofString "__next__") hT F.slot_enumerate_next
      (wpAny_call_entry F.slot_enumerate_next hT F.entry_enumerate_next ?_ (F.args_enumerate_next_1 _))))
    show wpAny _ _ (field (.ref e) 2 >>= _) _ _ _
    refine wpAny_bind (wpAny_field he rfl (x := .ref it) rfl ?_)
    refine wpAny_bind (wpAny_nextOf_tuple_end (I.ok.hd hc) hit p (by simp; omega) fun h' x he' hx' => ?_)
    obtain ⟨o, ho, hcc⟩ := hx'
    refine wpAny_bind (wpAny_isInstance (T := "StopIteration") (b := true) ⟨o, ho, hcc⟩ isSubtype_stop ?_)
    exact wpAny_pure ⟨rfl, I.turned (t' := s.toks) (fun b o hb q => he' b o hb q) f0 f1 f3 f4 f5⟩
  self := fun A i s Q E st h => let ⟨⟨_, he⟩, _⟩ := st; wpAny_pyIter_enum he h
def iEnumA (K : PySem.W.Frag) (ta : TA) : TI := fun σ H R => ta σ H fun vs H1 => ∃ a xs, vs = [.ref a] ∧ ((SqL K H1 a xs ∧ R (Ite K a) H1) ∨ (SqT K H1 a xs ∧ R (IteT K a) H1))
theorem pi_enumA {X : Cx} {e : Expr} {ta : TA} {p pos tpos : Pos} {elts : List Expr} {kk : Nat} (hg : Gl X "enumerate") (hm : X.mg "enumerate" = none) (ha : PA X [e] ta) (hs : starEach [e] X.env = [(false, eval e X.env)] := by rfl) :
    PI X (.Tuple elts kk tpos) (.Call (.Name "enumerate" p) [e] [] pos) (iEnumA X.K ta) := by
  refine ⟨fun pins s σ H R I h => ?_⟩
  refine Call_ (ld_blt I hg hm boot_enumerate (PyProof.Rows.callWith_type1 (thn (ha.run pos pins s σ H _ I h) fun us s1 ⟨vs, H1, I1, r1, q1⟩ => ?_) hs rfl))
  obtain ⟨a, xs, ex, q⟩ := q1
  subst ex
  cases r1 with
  | cons r rr =>
    cases rr
    cases r
    have fr : ∀ b ∈ [s1.heap.objs.size + 1, s1.heap.objs.size], FpOk X pins H1 b := fun b hb => by
      have e' : b = s1.heap.objs.size + 1 ∨ b = s1.heap.objs.size := by simpa using hb
      have hle : s1.heap.objs.size ≤ b := by
        rcases e' with z | z
        · rw [z]; exact Nat.le_succ _
        · rw [z]; exact Nat.le_refl _
      exact I1.fpOk hle (I1.hok.fresh hle)
    rcases q with ⟨hq, q⟩ | ⟨hq, q⟩
    · obtain ⟨its, rv, p', hz⟩ := I1.list hq
      refine call_enumerate_list p'.isList fun h' he hit hsz hk => wpAny_pyIter_enum he ?_
      have I2 : Inv X pins σ H1 { s1 with heap := h' } := I1.kept (t' := s1.toks) hk
      exact ⟨s1.heap.objs.size + 1, [s1.heap.objs.size + 1, s1.heap.objs.size], _, _, H1, rfl, I2, turn_enum a (s1.heap.objs.size + 1) s1.heap.objs.size, ⟨⟨.none, he⟩, hit, Nat.succ_ne_self _⟩, fr, q⟩
    · obtain ⟨its, rv, p', hz⟩ := I1.tuple hq
      have hlt : a < s1.heap.objs.size := p'.lt
      refine call_enumerate_tuple (show s1.heap.IsTuple a its.toArray from p') fun h' he hit hsz hk => wpAny_pyIter_enum he ?_
      have I2 : Inv X pins σ H1 { s1 with heap := h' } := I1.kept (t' := s1.toks) hk
      exact ⟨s1.heap.objs.size + 1, [s1.heap.objs.size + 1, s1.heap.objs.size], _, _, H1, rfl, I2, turn_enumT a (s1.heap.objs.size + 1) s1.heap.objs.size (Nat.ne_of_lt hlt), ⟨⟨.none, he⟩, hit, Nat.succ_ne_self _⟩, fr, q⟩
end FwE
end
-- FwE2
section
set_option Elab.async false
set_option linter.all false
set_option maxRecDepth 100000
set_option maxHeartbeats 4000000
/-! FwE2: t[::-1] of a tuple. -/
namespace FwE
open PySem PySem.Spec PyProof.Rows L2 HT
section
variable {prog : Program} {w : World} {A : Around} {E : Value → Shared → Prop} {s : Shared}
theorem adjust_rev (n : Nat) : Builtin.Slice.sliceAdjust none none (-1) (n : Int) = ((n : Int) - 1, -1) := by
  unfold Builtin.Slice.sliceAdjust
  simp
theorem places_rev (n : Nat) : Builtin.Slice.slicePlaces ((n : Int) - 1) (-1) (-1) = n := by
  unfold Builtin.Slice.slicePlaces
  have h1 : ¬ ((-1 : Int) > 0) := by decide
  simp only [h1, if_false]
  by_cases h : (n : Int) - 1 > -1
  · simp only [h, if_true]
    rw [show (- -1 : Int) = 1 by decide, Int.ediv_one]
    omega
  · simp only [h, if_false]
    omega
theorem sliceApplied_rev {sl : Addr} {vs : Value} {n : Nat} {Q : Int × Int × Nat → Shared → Prop} (hs : s.heap.IsSliceOf sl .none .none vs) (ps : IsPart vs (some (-1)))
    (h : Q ((n : Int) - 1, -1, n) s) : wpAny (model prog w) A (Builtin.Slice.sliceApplied (.ref sl) (pure (n : Int))) Q E s := by
  obtain ⟨os, hos, hcs, hds⟩ := id hs
  unfold Builtin.Slice.sliceApplied Builtin.Slice.sliceFields
  refine wpAny_bind (wpAny_bind (wpAny_field hos hds (x := .none) rfl (wpAny_bind (wpAny_field hos hds (x := .none) rfl (wpAny_bind (wpAny_field hos hds (x := vs) rfl (wpAny_pure ?_)))))))
  refine wpAny_bind (slicePart_ ps ?_)
  show wpAny _ _ (if ((-1 : Int) == 0) = true then _ else _) _ _ s
  rw [if_neg (by decide)]
  refine wpAny_bind (slicePart_none (wpAny_bind (slicePart_none (wpAny_bind (wpAny_pure ?_)))))
  show wpAny _ _ (match Builtin.Slice.sliceAdjust none none (-1) (n : Int) with | (lo, hi) => pure (lo, (-1 : Int), Builtin.Slice.slicePlaces lo hi (-1))) _ _ s
  rw [adjust_rev]
  show wpAny _ _ (pure ((n : Int) - 1, (-1 : Int), Builtin.Slice.slicePlaces ((n : Int) - 1) (-1) (-1))) _ _ s
  rw [places_rev]
  exact wpAny_pure h
theorem pick_rev (xs : Array Value) : ((List.range xs.size).filterMap fun (m : Nat) => xs[(((xs.size : Int) - 1) + (m : Int) * -1).toNat]?).toArray = xs.toList.reverse.toArray := by
  have e1 : ((List.range xs.size).filterMap fun (m : Nat) => xs[(((xs.size : Int) - 1) + (m : Int) * -1).toNat]?) = ((List.range xs.size).map fun m => xs.size - 1 - m).filterMap (xs[·]?) := by
    rw [List.filterMap_map]
    have hc : ∀ l : List Nat, (∀ m ∈ l, m < xs.size) → (l.filterMap fun (m : Nat) => xs[(((xs.size : Int) - 1) + (m : Int) * -1).toNat]?) = l.filterMap ((fun x => xs[x]?) ∘ fun m => xs.size - 1 - m) := by
      intro l
      induction l with
      | nil => intro _; rfl
      | cons m r ih =>
        intro h
        have hm := h m List.mem_cons_self
        have e : (((xs.size : Int) - 1) + (m : Int) * -1).toNat = xs.size - 1 - m := by omega
        rw [List.filterMap_cons, List.filterMap_cons, ih fun k hk => h k (List.mem_cons_of_mem _ hk)]
        simp only [Function.comp, e]
    exact hc _ fun m hm => by simpa using hm
  rw [e1, PySem.W.krv_range, List.filterMap_reverse, PySem.W.krv_all]
theorem getItem_tuple_rev {t sl : Addr} {items : Array Value} {vs : Value} {Q : Value → Shared → Prop} (ht : IsTup s.heap t items) (hs : s.heap.IsSliceOf sl .none .none vs) (ps : IsPart vs (some (-1)))
    (h : Q (.ref s.heap.objs.size) { s with heap := s.heap.push { cls := .type "tuple", data := .seq items.toList.reverse.toArray } })
    (hsz : items.size ≤ sizeLine) : wpAny (model prog w) A (getItem (.ref t) (.ref sl)) Q E s := by
  have htake : sizeOk (.seq items.toList.reverse.toArray) := by
    show items.toList.reverse.toArray.size ≤ sizeLine
    rw [List.size_toArray, List.length_reverse, Array.length_toList]
    exact hsz
  obtain ⟨os, hos, hcs, hds⟩ := id hs
  have hTs : s.TypeIs (.ref sl) "slice" := ⟨os, hos, hcs⟩
  unfold getItem
  try with_reducible refine wpAny_holding ?_
  first | refine wpAny_bind (wpAny_pure ?_) | skip
  refine wpAny_bind (wpAny_sequenceKey ht.typeIs (by decide) ?_)
  refine wpAny_bind (wpAny_callSpecial?_slot (name := Str.ofString "__getitem__") ht.typeIs PyProof.Rows.slot_tuple_getitem
    (wpAny_call_entry PyProof.Rows.slot_tuple_getitem ht.typeIs entry_tuple_getitem ?_ (args_tuple_getitem _ _)))
  show wpAny _ _ (Builtin.Tuple.tupleItemsOf (.ref t) >>= _) _ _ s
  refine wpAny_bind (tupleItemsOf_ ht ?_)
  refine wpAny_bind (wpAny_typeOf hTs ?_)
  rw [if_pos (by decide)]
  refine wpAny_bind (sliceApplied_rev hs ps ?_)
  have hno : ¬ ((((items.size : Int) - 1) == 0 && (-1 : Int) == 1 && items.size == items.size) = true) := by
    intro q
    rw [Bool.and_eq_true, Bool.and_eq_true] at q
    exact absurd q.1.2 (by decide)
  show wpAny _ _ (if (((items.size : Int) - 1) == 0 && (-1 : Int) == 1 && items.size == items.size) = true then _ else _) _ _ s
  rw [if_neg hno, pick_rev]
  first
    | exact wpAny_bind (m := Builtin.Tuple.tupleExact _) (wpAny_newObj_type (wpAny_pure ⟨_, rfl, wpAny_pure h⟩) htake)
    | exact wpAny_bind (m := Builtin.Tuple.tupleExact _) (wpAny_newObj_type (wpAny_bind (wpAny_pure (wpAny_pure ⟨_, rfl, wpAny_pure h⟩))) htake)
    | exact wpAny_bind (wpAny_bind (m := Builtin.Tuple.tupleExact _) (wpAny_newObj_type (wpAny_pure (wpAny_pure ⟨_, rfl, wpAny_pure h⟩)) htake))
    | exact wpAny_bind (wpAny_bind (m := Builtin.Tuple.tupleExact _) (wpAny_newObj_type (wpAny_pure ⟨_, rfl, wpAny_pure h⟩) htake))
end
section
variable {X : Cx}
/-- x[::-1] of a list or a tuple -/
def tRevA (K : PySem.W.Frag) (te : TE) : TE := fun σ H Q => te σ H fun x H1 => ∃ a xs, x = .ref a ∧ ((SqL K H1 a xs ∧ ∀ p, H1 p = none → Q (.ref p) (upd H1 p (.lst xs.reverse))) ∨ (SqT K H1 a xs ∧ ∀ p, H1 p = none → Q (.ref p) (upd H1 p (.tup xs.reverse))))
theorem pe_revA {e : Expr} {te : TE} {k : Nat} {p1 p2 p3 pos : Pos} (he : PE X e te) : PE X (.Subscript e (.Slice none none (some (.UnaryOp .USub (.Constant (.int 1) k p1) p2)) p3) pos) (tRevA X.K te) := by
  refine ⟨fun pins s σ H Q I h => ?_⟩
  refine Subscript_ (thn (he.run pins s σ H _ I h) fun v s1 ⟨x, H1, I1, r1, q1⟩ => ?_)
  obtain ⟨a, xs, ex, q⟩ := q1
  subst ex
  cases r1
  have hst : PO X (some (.UnaryOp .USub (.Constant (.int 1) k p1) p2)) (tPart (tUn (rU fun i => .int (-i)) (tC (.int 1)))) := po_some (pe_un un_neg pe_int)
  refine wpAny_Slice ?_
  rw [evalPart_none]
  refine wpAny_pure ?_
  refine wpAny_pure ?_
  refine thn (hst.run pins s1 σ H1 (fun o H4 => o = some (-1) ∧ H4 = H1) I1 ⟨1, rfl, -1, rfl, rfl, rfl⟩) fun vs s4 ⟨o, H4, I4, ps, eo, e4⟩ => ?_
  subst eo e4
  have I5 : Inv X pins σ H4 { s4 with heap := s4.heap.push { cls := .type "slice", data := .fields #[.none, .none, vs] } } := I4.kept (t' := s4.toks) fun b ob q => Heap.get?_push_of_some _ q
  show wpAny (model X.prog X.w) X.A (subscriptTail e (.Slice none none (some (.UnaryOp .USub (.Constant (.int 1) k p1) p2)) p3) (.ref a) (.ref s4.heap.objs.size)) (EP X pins σ Q) X.xe { s4 with heap := s4.heap.push { cls := .type "slice", data := .fields #[.none, .none, vs] } }
  rcases q with ⟨hx, q⟩ | ⟨hx, q⟩
  · obtain ⟨its, r, ht, hz⟩ := I5.list hx
    have hlen := r.length
    refine tail_any (ops := [.ref a, .ref s4.heap.objs.size]) ht.isList.typeIs (PySem.slot_list_getitem.lookup) ?_ (by with_unfolding_all rfl)
    refine wpAny_getItem_list_slice ht.isList (Heap.IsSliceOf.new _ .none .none vs) .none .none ps (by decide) ?_ (by rw [List.size_toArray]; omega)
    rw [PySem.W.krv_pick]
    refine ⟨.ref _, _, I5.laid (t' := s4.toks) (o := .lst xs.reverse) (fun b ob q => Heap.get?_push_of_some _ q) (Nat.le_refl _) ?_, rfl, q _ (I5.hok.fresh (Nat.le_refl _))⟩
    exact ⟨by rw [List.length_reverse]; exact hz, _, 0, r.reverse, Heap.get?_push_size _ rfl⟩
  · obtain ⟨its, r, ht, hz⟩ := I5.tuple hx
    have hlen := r.length
    refine tail_any (ops := [.ref a, .ref s4.heap.objs.size]) ht.typeIs (PyProof.Rows.slot_tuple_getitem.lookup) ?_ (by with_unfolding_all rfl)
    refine getItem_tuple_rev ht (Heap.IsSliceOf.new _ .none .none vs) ps ?_ (by rw [List.size_toArray]; omega)
    refine ⟨.ref _, _, I5.laid (t' := s4.toks) (o := .tup xs.reverse) (fun b ob q => Heap.get?_push_of_some _ q) (Nat.le_refl _) ?_, rfl, q _ (I5.hok.fresh (Nat.le_refl _))⟩
    exact ⟨by rw [List.length_reverse]; exact hz, _, r.reverse, _, Heap.get?_push_size _ rfl, rfl, 0, rfl⟩
end
end FwE
end
-- Fw8
section
set_option Elab.async false
set_option linter.all false
set_option maxRecDepth 100000
set_option maxHeartbeats 4000000
/-! Fw8: calls, subscripts, displays, what is walked. -/
namespace Fw
open PySem PySem.Spec PyProof.Rows L2
section
variable {X : Cx} {Γ : Ctx} {Φ : Nat → List Dat → M Dat} {k : Nat}
/-! lists of arguments -/
theorem star1 {e : Expr} (h : isStar e = false) (es : List Expr) (env : PySem.Env) : starEach (e :: es) env = (false, eval e env) :: starEach es env := by
  cases e <;> first | rfl | cases h
def noStars (es : List Expr) : Prop := ∀ e ∈ es, isStar e = false
theorem nost {es : List Expr} (h : noStars es) (pos : Pos) (env : PySem.Env) : (backTo pos (starEach es env)).any (·.1) = false := by
  induction es with
  | nil => rfl
  | cons e es ih =>
    rw [star1 (h e List.mem_cons_self)]
    have := ih fun x hx => h x (List.mem_cons_of_mem _ hx)
    unfold backTo at this ⊢
    rw [List.map_cons, List.any_cons, this]
    rfl
theorem pa_nil_rd {R : Hp → (Addr → Prop) → List Addr → V → Dat → Prop} : PA X [] (rdA X.K R fun _ => mpure []) := PA.imp pa_nil fun σ H Q ⟨N, μ, st, ρ, w, er, p⟩ => p [] H μ Eff.refl w .nil
theorem pa_cons_S {e : Expr} {es : List Expr} {a : IE} {r : IEs} (hs : isStar e = false) (ha : PE X e (rdg X.K a (den Φ a))) (hr : PA X es (rdA X.K (RepS X.K) (denA Φ r))) : PA X (e :: es) (rdA X.K (RepS X.K) (denA Φ (.cons a r))) := by
  refine PA.imp (pa_cons (rdg_toS ha) hr (star1 hs _ _)) fun σ H Q ⟨N, μ, st, ρ, w, er, p⟩ => ?_
  refine rd_bind w er p fun x s v H1 μ1 ef w1 er1 r1 p1 => ?_
  refine rdA_bind w1 er1 p1 fun xs s2 vs H2 μ2 ef2 w2 er2 r2 p2 => ?_
  exact p2 (v :: vs) H2 μ2 (ef.trans ef2) w2 (.cons (Rep.mo' r1 ef2.mo) r2)
theorem pa_cons_W {e : Expr} {es : List Expr} {a : IE} {r : IEs} (hs : isStar e = false) (ha : PE X e (rdg X.K a (den Φ a))) (hr : PA X es (rdA X.K (RepW X.K) (denW Φ r))) : PA X (e :: es) (rdA X.K (RepW X.K) (denW Φ (.cons a r))) := by
  refine PA.imp (pa_cons (rdg_toW ha) hr (star1 hs _ _)) fun σ H Q ⟨N, μ, st, ρ, w, er, p⟩ => ?_
  refine rd_bind w er p fun x s v H1 μ1 ef w1 er1 r1 p1 => ?_
  refine rdA_bind w1 er1 p1 fun xs s2 vs H2 μ2 ef2 w2 er2 r2 p2 => ?_
  exact p2 (v :: vs) H2 μ2 (ef.trans ef2) w2 (.cons (RepW.eff r1 w1 ef2) r2)
/-! calls -/
theorem s_call {f : Nat} {es : IEs} {x : Str} {xs : List Expr} {p pos : Pos} {fn : Fn} (C : CtxOk X Γ Φ k) (hg : glB Γ x = true) (hf : Γ.tab[f]? = some fn) (hx : fn.name = x) (hs : noStars xs) (hn : xs = [] → es = .nil) (ha : PA X xs (rdA X.K (RepS X.K) (denA Φ es))) :
    PE X (.Call (.Name x p) xs [] pos) (rdg X.K (.call f es) (den Φ (.call f es))) := by
  obtain ⟨a, fd, m1, m2, m3, m4⟩ := C.fns f fn hf
  subst hx
  obtain ⟨g1, g2⟩ := C.gl_ hg
  have key : ∀ (t : TA), (∀ σ H Q, rdA X.K (RepS X.K) (denA Φ es) σ H Q → t σ H Q) → ∀ σ H Q, rd X.K (RepS X.K) (den Φ (.call f es)) σ H Q → tCall (spOf X.K (Φ f)) [] E0 t σ H Q := fun t ht σ H Q ⟨N, μ, st, ρ, w, er, p⟩ => by
    refine ht σ H _ ?_
    refine rdA_bind w er p fun ds s2 vs H2 μ2 ef2 w2 er2 r2 p2 => ?_
    rw [List.append_nil]
    exact ⟨N, μ2, s2, ds, w2, paired_reps r2, post_mono p2 fun d s q => Beh.eff q ef2⟩
  cases xs with
  | nil =>
    refine rdg_ofS (PE.imp (pe_call0 m4 C.room g1 m1 m2 m3 .nil pass0 g2) fun σ H Q h => key tNil (fun σ H Q h => ?_) σ H Q h)
    have e := hn rfl
    subst e
    obtain ⟨N, μ, st, ρ, w, er, p⟩ := h
    exact p [] H μ Eff.refl w .nil
  | cons y ys =>
    exact rdg_ofS (PE.imp (pe_call m4 C.room g1 m1 m2 m3 .nil pass0 ha g2 (star1 (hs y List.mem_cons_self) _ _) (nost (fun e he => hs e (List.mem_cons_of_mem _ he)) _ _)) fun σ H Q h => key _ (fun σ H Q h => h) σ H Q h)
theorem biN_mem (b : Bi) : biN b ∈ bltNames := by cases b <;> decide
theorem s_bi {b : Bi} {es : IEs} {x : Str} {y : Expr} {ys : List Expr} {p pos : Pos} (C : CtxOk X Γ Φ k) (hx : x = biN b) (hg : glB Γ x = true) (hs : noStars (y :: ys)) (ha : PA X (y :: ys) (rdA X.K (RepW X.K) (denW Φ es))) :
    PE X (.Call (.Name x p) (y :: ys) [] pos) (rdg X.K (.bi b es) (den Φ (.bi b es))) := by
  subst hx
  obtain ⟨g1, g2⟩ := C.gl_ hg
  have hm := C.blt _ (biN_mem b)
  have hc := bi_all_ok (X := X) C.calm b
  have hb := biN_boot b
  have hok := biN_ok b
  have h1 := star1 (hs y List.mem_cons_self) ys X.env
  have h2 := nost (fun e he => hs e (List.mem_cons_of_mem _ he)) pos X.env
  have main : PE X (.Call (.Name (biN b) p) (y :: ys) [] pos) (tCB (rBi X.K b) (rdA X.K (RepW X.K) (denW Φ es))) := by
    revert hc hb
    generalize biV b = v
    intro hc hb
    by_cases hv : ∃ id, v = .builtin id
    · obtain ⟨id, rfl⟩ := hv
      exact pe_callB hc g1 hm hb ha hok.1 g2 h1 h2
    · by_cases hv2 : ∃ T, v = .type T
      · obtain ⟨T, rfl⟩ := hv2
        exact pe_callTy hc g1 hm hb ha hok.1 g2 h1 h2
      · exfalso
        have hb' := hb.symm.trans (biN_boot b)
        have e := Option.some.inj hb'
        subst e
        cases b <;> first | exact hv ⟨_, rfl⟩ | exact hv2 ⟨_, rfl⟩
  refine rdg_ofS (PE.imp main fun σ H Q ⟨N, μ, st, ρ, w, er, p⟩ => ?_)
  refine rdA_bind w er p fun ds s2 vs H2 μ2 ef2 w2 er2 r2 p2 => ?_
  obtain ⟨d, e, q⟩ := post_mr p2
  exact ⟨N, μ2, s2, ds, d, w2, r2, e, Beh.eff q ef2⟩
theorem s_isi {a : IE} {t : String} {T : Str} {y : Expr} {p p2 pos : Pos} (C : CtxOk X Γ Φ k) (hg : glB Γ ("isinstance" : Str) = true) (ha : PE X y (rdg X.K a (den Φ a))) (hs : isStar y = false) (hT : glB Γ T = true) (hm : T ∈ bltNames) (hb : bootBuiltins T = some (.type t)) (hn : T ≠ "__name__") :
    PE X (.Call (.Name "isinstance" p) [y, .Name T p2] [] pos) (rdg X.K (.isi a t) (den Φ (.isi a t))) := by
  obtain ⟨g1, g2⟩ := C.gl_ hg
  obtain ⟨g3, g4⟩ := C.gl_ hT
  have hty : PE X (.Name T p2) (tC (.ty t)) := pe_bltn g3 (C.blt _ hm) hb rfl hn g4
  have main := pe_callB (id := "isinstance") (X := X) (p := p) (pos := pos) call_isi g1 (C.blt _ (by decide)) (by decide +kernel) (pa_cons (rdg_toW ha) (pa_cons hty pa_nil (by rfl)) (star1 hs _ _)) (by decide) (by decide) (star1 hs _ _) (by rfl)
  refine rdg_ofS (PE.imp main fun σ H Q ⟨N, μ, st, ρ, w, er, p⟩ => ?_)
  refine rd_bind w er p fun x s v H1 μ1 ef w1 er1 r1 p1 => ?_
  obtain ⟨d, e, q⟩ := post_mo p1
  obtain ⟨kk, e2, rfl⟩ := Option.map_eq_some_iff.mp e
  unfold opIsi at e2
  cases et : tyOf x with
  | none => rw [et] at e2; cases e2
  | some u =>
    rw [et] at e2
    exact ⟨v, .ty t, .type u, .type t, kk, rfl, .ty t, ty_of r1 et, kit_ty e2, beh_same (Beh.eff q ef) w1 (.bl _)⟩
/-! subscripts -/
theorem plainIx_of {i : Expr} (h : isSlice i = false) : PlainIx i := by
  intro o j
  cases i <;> first | rfl | cases h
theorem s_ix {a i : IE} {x y : Expr} {pos : Pos} (hi : isSlice y = false) (ha : PE X x (rdg X.K a (den Φ a))) (hb : PE X y (rdg X.K i (den Φ i))) : PE X (.Subscript x y pos) (rdg X.K (.ix a i) (den Φ (.ix a i))) := by
  refine rdg_ofS (PE.imp (pe_ix ix_seq (rdg_toW ha) (rdg_toW hb) (plainIx_of hi)) fun σ H Q ⟨N, μ, st, ρ, w, er, p⟩ => ?_)
  refine rd_bind w er p fun x s v H1 μ1 ef w1 er1 r1 p1 => ?_
  refine rd_bind w1 er1 p1 fun y s2 u H2 μ2 ef2 w2 er2 r2 p2 => ?_
  obtain ⟨d, e, q⟩ := post_mr p2
  exact imp_ix N μ2 s2 H2 v u x y d Q w2 (r1.eff w1 ef2) r2 e (Beh.eff q (ef.trans ef2))
theorem o_none : PO X none (rdO X.K (denO Φ .no)) := PO.imp po_none fun σ H Q ⟨N, μ, st, ρ, w, er, p⟩ => p H μ Eff.refl w
theorem o_some {a : IE} {x : Expr} (ha : PE X x (rdg X.K a (den Φ a))) : PO X (some x) (rdO X.K (denO Φ (.yes a))) := by
  refine PO.imp (po_some (rdg_toW ha)) fun σ H Q ⟨N, μ, st, ρ, w, er, p⟩ => ?_
  refine rd_bind w er p fun x s v H1 μ1 ef w1 er1 r1 p1 => ?_
  obtain ⟨d, e, q⟩ := post_mo p1
  cases x <;> first | (cases e; done) | skip
  cases e
  exact ⟨_, repW_int r1, q H1 μ1 ef w1⟩
theorem rdO_bind {α : Type} {fO : Env → M (Option Int)} {K : PySem.W.Frag} {g : Option Int → M α} {N : Addr → Prop} {μ : List Addr} {st : Store} {ρ : Env} {σ : L2.St} {H : Hp} {P : α → Store → Prop} {Q : Option Int → Hp → Prop} (w : WOk K H N μ st) (er : ER K H N μ σ ρ) (p : post (mbind (fO ρ) g st) P)
    (h : ∀ d s H' μ', Eff H μ H' μ' → WOk K H' N μ' s → ER K H' N μ' σ ρ → post (g d s) P → Q d H') : rdO K fO σ H Q :=
  ⟨N, μ, st, ρ, w, er, post_mono (post_bind p) fun d s q H' μ' ef w' => h d s H' μ' ef w' (er.eff w ef) q⟩
theorem s_sl {a : IE} {lo hi : IO} {x : Expr} {l h : Option Expr} {pos p2 : Pos} (ha : PE X x (rdg X.K a (den Φ a))) (hl : PO X l (rdO X.K (denO Φ lo))) (hh : PO X h (rdO X.K (denO Φ hi))) : PE X (.Subscript x (.Slice l h none p2) pos) (rdg X.K (.sl a lo hi) (den Φ (.sl a lo hi))) := by
  refine rdg_ofS (PE.imp (pe_slice sl_D (rdg_toW ha) hl hh) fun σ H Q ⟨N, μ, st, ρ, w, er, p⟩ => ?_)
  refine rd_bind w er p fun x s v H1 μ1 ef w1 er1 r1 p1 => ?_
  refine rdO_bind w1 er1 p1 fun y s2 H2 μ2 ef2 w2 er2 p2 => ?_
  refine rdO_bind w2 er2 p2 fun z s3 H3 μ3 ef3 w3 er3 p3 => ?_
  obtain ⟨d, e, q⟩ := post_mr p3
  exact imp_sl w3 ((r1.eff w1 ef2).eff w2 ef3) e (Beh.eff q ((ef.trans ef2).trans ef3))
theorem s_rev {a : IE} {x : Expr} {n : Nat} {p1 p2 p3 pos : Pos} (ha : PE X x (rdg X.K a (den Φ a))) : PE X (.Subscript x (.Slice none none (some (.UnaryOp .USub (.Constant (.int 1) n p1) p2)) p3) pos) (rdg X.K (.rev a) (den Φ (.rev a))) := by
  refine rdg_ofS (PE.imp (FwE.pe_revA (rdg_toW ha)) fun σ H Q ⟨N, μ, st, ρ, w, er, p⟩ => ?_)
  refine rd_bind w er p fun x s v H1 μ1 ef w1 er1 r1 p1 => ?_
  obtain ⟨d, e, q⟩ := post_mr p1
  have q' := Beh.eff q ef
  by_cases hx : ∃ ds, x = .tup ds
  · obtain ⟨ds, rfl⟩ := hx
    cases e
    obtain ⟨a, vs, rfl, h1, h2⟩ := repW_tup r1
    exact ⟨a, vs, rfl, .inr ⟨h1.sq, beh_tup q' w1 h2.reverse⟩⟩
  · have e' : (lstOf s x).map (fun ds => Dat.lst ds.reverse) = some d := by
      cases x <;> first | exact e | exact absurd ⟨_, rfl⟩ hx
    obtain ⟨ds, e1, rfl⟩ := Option.map_eq_some_iff.mp e'
    obtain ⟨a, vs, rfl, h1, h2⟩ := lst_of w1 r1 e1
    exact ⟨a, vs, rfl, .inl ⟨SqL.of h1, beh_lst q' w1 h2.reverse⟩⟩
/-! displays -/
theorem s_tup {es : IEs} {xs : List Expr} {n : Nat} {pos : Pos} (ha : PA X xs (rdA X.K (RepS X.K) (denA Φ es))) : PE X (.Tuple xs n pos) (rdg X.K (.tup es) (den Φ (.tup es))) := by
  refine rdg_ofS (PE.imp (pe_tup ha) fun σ H Q ⟨N, μ, st, ρ, w, er, p⟩ => ?_)
  refine rdA_bind w er p fun ds s2 vs H2 μ2 ef2 w2 er2 r2 p2 => ?_
  obtain ⟨d, e, q⟩ := post_mo p2
  split at e
  · cases e
    have rr := paired_reps r2
    exact ⟨by rw [rr.length]; assumption, beh_tup (Beh.eff q ef2) w2 rr⟩
  · cases e
theorem s_lst {es : IEs} {xs : List Expr} {pos : Pos} (ha : PA X xs (rdA X.K (RepS X.K) (denA Φ es))) : PE X (.List xs pos) (rdg X.K (.lst es) (den Φ (.lst es))) := by
  refine rdg_ofS (PE.imp (pe_lst ha) fun σ H Q ⟨N, μ, st, ρ, w, er, p⟩ => ?_)
  refine rdA_bind w er p fun ds s2 vs H2 μ2 ef2 w2 er2 r2 p2 => ?_
  obtain ⟨d, e, q⟩ := post_mo p2
  split at e
  · cases e
    have rr := paired_reps r2
    exact ⟨by rw [rr.length]; assumption, beh_lst (Beh.eff q ef2) w2 rr⟩
  · cases e
theorem get_snoc {α : Type} {l : List α} {a b : α} {i : Nat} (h : (l ++ [a])[i]? = some b) : l[i]? = some b ∨ (i = l.length ∧ b = a) := by
  by_cases hi : i < l.length
  · rw [List.getElem?_append_left hi] at h
    exact .inl h
  · rw [List.getElem?_append_right (by omega)] at h
    have : i - l.length = 0 := by
      have := (List.getElem?_eq_some_iff.mp h).1
      simp at this
      omega
    rw [this] at h
    simp at h
    exact .inr ⟨by omega, h.symm⟩
/-- a new list becomes a cell of the store -/
theorem WOk.cellNew {K : PySem.W.Frag} {H : Hp} {N : Addr → Prop} {μ : List Addr} {st : Store} {p : Addr} {vs : List V} {ds : List Dat} (w : WOk K H N μ st) (hp : H p = none) (r : Reps K H (Fo μ N) μ vs ds) :
    Eff H μ (upd H p (.lst vs)) (μ ++ [p]) ∧ WOk K (upd H p (.lst vs)) N (μ ++ [p]) (st ++ [.lst ds]) := by
  have e : Eff H μ (upd H p (.lst vs)) (μ ++ [p]) := ⟨fun a u h _ => by rw [upd_ne (ne_of_none h hp)]; exact h, fun n a h => by rw [List.getElem?_append_left (List.getElem?_eq_some_iff.mp h).1]; exact h, fun a h => by
    rcases List.mem_append.mp h with h | h
    · exact .inl h
    · rw [List.mem_singleton.mp h]; exact .inr hp⟩
  have wn := w.new (o := .lst vs) hp
  have hnm : p ∉ μ := fun h => w.free hp (.inl h)
  have hnn : ¬ N p := fun h => w.free hp (.inr h)
  have hl : st.length = μ.length := w.len.symm
  refine ⟨e, by rw [List.length_append, List.length_append, w.len] <;> rfl, fun i j a h1 h2 => ?_, fun n a c h1 h2 => ?_, fun a h => ?_, wn.trk⟩
  · rcases get_snoc h1 with g1 | ⟨g1, e1⟩
    · rcases get_snoc h2 with g2 | ⟨g2, e2⟩
      · exact w.nd i j a g1 g2
      · rw [e2] at g1; exact absurd (List.mem_of_getElem? g1) hnm
    · rcases get_snoc h2 with g2 | ⟨g2, _⟩
      · rw [e1] at g2; exact absurd (List.mem_of_getElem? g2) hnm
      · omega
  · rcases get_snoc h1 with g1 | ⟨g1, rfl⟩
    · rcases get_snoc h2 with g2 | ⟨g2, _⟩
      · have := w.cell n a c g1 g2
        cases c with
        | lst es =>
          obtain ⟨us, q1, q2⟩ := this
          exact ⟨us, by rw [upd_ne (ne_of_none q1 hp)]; exact q1, q2.mo' e.mo⟩
      · have := (List.getElem?_eq_some_iff.mp g1).1
        omega
    · rcases get_snoc h2 with g2 | ⟨_, rfl⟩
      · have := (List.getElem?_eq_some_iff.mp g2).1
        omega
      · exact ⟨vs, upd_same, r.mo' e.mo⟩
  · rcases List.mem_append.mp h with h | h
    · exact w.sep a h
    · rw [List.mem_singleton.mp h]; exact hnn
theorem s_newl {es : IEs} {xs : List Expr} {pos : Pos} (ha : PA X xs (rdA X.K (RepS X.K) (denA Φ es))) : PE X (.List xs pos) (rdg X.K (.newl es) (den Φ (.newl es))) := by
  refine rdg_ofS (PE.imp (pe_lst ha) fun σ H Q ⟨N, μ, st, ρ, w, er, p⟩ => ?_)
  refine rdA_bind w er p fun ds s2 vs H2 μ2 ef2 w2 er2 r2 p2 => ?_
  have rr := paired_reps r2
  have p3 : post (if ds.length ≤ sizeLine then Res.ok (Dat.ref s2.length) (s2 ++ [.lst ds]) else .err) (Beh X.K (RepS X.K) H N μ Q) := p2
  split at p3
  · refine ⟨by rw [rr.length]; assumption, fun p hp => ?_⟩
    obtain ⟨e, w3⟩ := w2.cellNew hp rr
    refine p3 (.ref p) _ _ (ef2.trans e) w3 (.ref ?_)
    rw [← w2.len, List.getElem?_append_right (Nat.le_refl _), Nat.sub_self]
    rfl
  · exact p3.elim
end
end Fw
end
-- Fw9
section
set_option Elab.async false
set_option linter.all false
set_option maxRecDepth 100000
set_option maxHeartbeats 4000000
/-! Fw9: what is walked, comprehensions. -/
namespace Fw
open PySem PySem.Spec PyProof.Rows L2 RZ

/-- an iterator gives just these items, whatever later world it is walked in -/
structure ItOk (K : PySem.W.Frag) (H : Hp) (F : Addr → Prop) (μ : List Addr) (J : It) (items : List Dat) : Prop where
  ex : ∃ (G : Hp → Prop) (Y : Nat → Hp → V → Hp → Prop), L2.Walk J items.length G Y ∧ (∀ H1 F1 μ1, Mo H F μ H1 F1 μ1 → G H1) ∧
    ∀ (i : Nat) (H1 : Hp) (x : V) (H2 : Hp), i < items.length → Y i H1 x H2 → ∀ F1 μ1, Mo H F μ H1 F1 μ1 → (∀ a, F1 a → H1 a ≠ none) →
      (H2 = H1 ∨ ∃ T xs, H1 T = none ∧ H2 = upd H1 T (.tup xs)) ∧ ∃ d, items[i]? = some d ∧ Rep K H2 F1 μ1 x d
def rdI (K : PySem.W.Frag) (f : Env → M (List Dat)) : TI := fun σ H R => ∃ N μ st ρ, WOk K H N μ st ∧ ER K H N μ σ ρ ∧ post (f ρ st) fun items st' => ∀ J H' μ', Eff H μ H' μ' → WOk K H' N μ' st' → ItOk K H' (Fo μ' N) μ' J items → R J H'
section
variable {K : PySem.W.Frag} {H : Hp} {F : Addr → Prop} {μ : List Addr}
theorem rep_up {H1 : Hp} {F1 : Addr → Prop} {μ1 : List Addr} {T : Addr} {o : HO} {x : V} {d : Dat} (r : Rep K H1 F1 μ1 x d) (hT : H1 T = none) : Rep K (upd H1 T o) F1 μ1 x d :=
  r.mo' ⟨fun a u h _ => by rw [upd_ne (ne_of_none h hT)]; exact h, fun _ h => .inl h, fun _ _ h => h⟩
theorem it_list {a : Addr} {vs : List V} {ds : List Dat} (h : H a = some (.lst vs)) (f : ¬ F a) (r : Reps K H F μ vs ds) : ItOk K H F μ (Itl K a) ds := by
  refine ⟨fun H1 => SqL K H1 a vs, YAt vs, ?_, fun H1 F1 μ1 m => SqL.of (m.keep _ _ h f), fun i H1 x H2 hi y F1 μ1 m _ => ?_⟩
  · rw [← r.length]; exact walk_list
  · obtain ⟨rfl, hx⟩ := y
    exact ⟨.inl rfl, (r.mo' m).get hx⟩
theorem it_tup {a : Addr} {vs : List V} {ds : List Dat} (h : TupAt K H F a vs) (r : Reps K H F μ vs ds) : ItOk K H F μ (Itt K a) ds := by
  refine ⟨fun H1 => SqT K H1 a vs, YAt vs, ?_, fun H1 F1 μ1 m => (h.mo m).sq, fun i H1 x H2 hi y F1 μ1 m _ => ?_⟩
  · rw [← r.length]; exact walk_tup
  · obtain ⟨rfl, hx⟩ := y
    exact ⟨.inl rfl, (r.mo' m).get hx⟩
theorem it_str {z : Str} : ItOk K H F μ (Its z) (z.cps.toList.map fun c => Dat.str ⟨#[c]⟩) := by
  refine ⟨fun _ => True, fun i H v H' => H' = H ∧ ∃ c, z.cps[i]? = some c ∧ v = .str ⟨#[c]⟩, ?_, fun _ _ _ _ => True.intro, fun i H1 x H2 hi y F1 μ1 m _ => ?_⟩
  · rw [List.length_map, Array.length_toList]
    exact walk_str
  · obtain ⟨rfl, c, hc, rfl⟩ := y
    refine ⟨.inl rfl, .str ⟨#[c]⟩, ?_, .str _⟩
    rw [List.getElem?_map, Array.getElem?_toList, hc]
    rfl
theorem it_range {lo : Int} {n : Nat} : ItOk K H F μ (Itr lo n) (rangeD lo n) := by
  refine ⟨fun _ => True, YFn fun i => .int (lo + i), ?_, fun _ _ _ _ => True.intro, fun i H1 x H2 hi y F1 μ1 m _ => ?_⟩
  · unfold rangeD
    rw [List.length_map, List.length_range]
    exact walk_range
  · obtain ⟨rfl, rfl⟩ := y
    unfold rangeD at hi ⊢
    rw [List.length_map, List.length_range] at hi
    refine ⟨.inl rfl, .int (lo + i), ?_, .int _⟩
    rw [List.getElem?_map, List.getElem?_range hi]
    rfl
theorem zip_len : ∀ (ds es : List Dat), (zipD ds es).length = min ds.length es.length
  | [], _ => by simp [zipD]
  | _ :: _, [] => by simp [zipD]
  | d :: ds, e :: es => by
    show (zipD ds es).length + 1 = min (ds.length + 1) (es.length + 1)
    rw [zip_len ds es]
    omega
theorem zip_get : ∀ {ds es : List Dat} {i : Nat} {d e : Dat}, ds[i]? = some d → es[i]? = some e → (zipD ds es)[i]? = some (.tup [d, e])
  | [], _, _, _, _, h, _ => by simp at h
  | _ :: _, [], _, _, _, _, h => by simp at h
  | d :: ds, e :: es, 0, _, _, h, h' => by
    simp at h h'
    subst h h'
    rfl
  | d :: ds, e :: es, i + 1, _, _, h, h' => zip_get (ds := ds) (es := es) (i := i) h h'
theorem enum_len : ∀ (n : Nat) (ds : List Dat), (enumD n ds).length = ds.length
  | _, [] => rfl
  | n, d :: ds => by
    show (enumD (n + 1) ds).length + 1 = ds.length + 1
    rw [enum_len]
theorem enum_get : ∀ {n : Nat} {ds : List Dat} {i : Nat} {d : Dat}, ds[i]? = some d → (enumD n ds)[i]? = some (.tup [.int ((n + i : Nat) : Int), d])
  | n, [], _, _, h => by simp at h
  | n, d :: ds, 0, _, h => by
    simp at h
    subst h
    rfl
  | n, d :: ds, i + 1, e, h => by
    have := enum_get (n := n + 1) (ds := ds) (i := i) (d := e) h
    show (enumD (n + 1) ds)[i]? = _
    rw [this, show n + 1 + i = n + (i + 1) by omega]
theorem rep_pair {H1 : Hp} {F1 : Addr → Prop} {μ1 : List Addr} {T : Addr} {x y : V} {d e : Dat} (r : Rep K H1 F1 μ1 x d) (r' : Rep K H1 F1 μ1 y e) (hT : H1 T = none) (f : ∀ a, F1 a → H1 a ≠ none) : Rep K (upd H1 T (.tup [x, y])) F1 μ1 (.ref T) (.tup [d, e]) :=
  .tup (.inl ⟨upd_same, fun h => f T h hT⟩) (.cons (rep_up r hT) (.cons (rep_up r' hT) .nil))
theorem it_zipL {a b : Addr} {vs us : List V} {ds es : List Dat} (h : H a = some (.lst vs)) (f : ¬ F a) (r : Reps K H F μ vs ds) (h' : H b = some (.lst us)) (f' : ¬ F b) (r' : Reps K H F μ us es) : ItOk K H F μ (Itz K a b) (zipD ds es) := by
  refine ⟨fun H1 => SqL K H1 a vs ∧ SqL K H1 b us, _, walk_zip (by rw [zip_len, r.length, r'.length]), fun H1 F1 μ1 m => ⟨SqL.of (m.keep _ _ h f), SqL.of (m.keep _ _ h' f')⟩, fun i H1 x H2 hi y F1 μ1 m tr => ?_⟩
  obtain ⟨T, x, z, rfl, hT, rfl, hx, hz⟩ := y
  obtain ⟨d, e1, r1⟩ := (r.mo' m).get hx
  obtain ⟨e, e2, r2⟩ := (r'.mo' m).get hz
  exact ⟨.inr ⟨T, _, hT, rfl⟩, _, zip_get e1 e2, rep_pair r1 r2 hT tr⟩
theorem it_zipT {a b : Addr} {vs us : List V} {ds es : List Dat} (h : TupAt K H F a vs) (r : Reps K H F μ vs ds) (h' : TupAt K H F b us) (r' : Reps K H F μ us es) : ItOk K H F μ (ItzT K a b) (zipD ds es) := by
  refine ⟨fun H1 => SqT K H1 a vs ∧ SqT K H1 b us, YPair (fun i => vs[i]?) (fun i => us[i]?), ?_, fun H1 F1 μ1 m => ⟨(h.mo m).sq, (h'.mo m).sq⟩, fun i H1 x H2 hi y F1 μ1 m tr => ?_⟩
  · have hn : (zipD ds es).length = min vs.length us.length := by rw [zip_len, r.length, r'.length]
    rw [hn]
    refine ⟨fun i _ hi q => ?_, fun _ q => ⟨vs, us, q.1, q.2, by omega⟩, fun i H v H' hi q y => ?_⟩
    · have h1 : i < vs.length := by omega
      have h2 : i < us.length := by omega
      exact ⟨vs, us, vs[i], us[i], q.1, q.2, by simp [h1], by simp [h2]⟩
    · obtain ⟨T, x, z, h1, h2, h3, h4, h5⟩ := y
      exact ⟨T, x, z, h1, h2, h3, h4 vs q.1, h5 us q.2⟩
  · obtain ⟨T, x, z, rfl, hT, rfl, hx, hz⟩ := y
    obtain ⟨d, e1, r1⟩ := (r.mo' m).get hx
    obtain ⟨e, e2, r2⟩ := (r'.mo' m).get hz
    exact ⟨.inr ⟨T, _, hT, rfl⟩, _, zip_get e1 e2, rep_pair r1 r2 hT tr⟩
theorem it_enumL {a : Addr} {vs : List V} {ds : List Dat} (h : H a = some (.lst vs)) (f : ¬ F a) (r : Reps K H F μ vs ds) : ItOk K H F μ (Ite K a) (enumD 0 ds) := by
  refine ⟨fun H1 => SqL K H1 a vs, YPair (fun i => some (.int (i : Nat))) (fun i => vs[i]?), ?_, fun H1 F1 μ1 m => SqL.of (m.keep _ _ h f), fun i H1 x H2 hi y F1 μ1 m tr => ?_⟩
  · rw [enum_len, ← r.length]
    exact walk_enum
  · obtain ⟨T, x, z, rfl, hT, rfl, hx, hz⟩ := y
    cases hx
    obtain ⟨e, e2, r2⟩ := (r.mo' m).get hz
    refine ⟨.inr ⟨T, _, hT, rfl⟩, _, enum_get e2, rep_pair ?_ r2 hT tr⟩
    rw [Nat.zero_add]
    exact .int _
theorem it_enumT {a : Addr} {vs : List V} {ds : List Dat} (h : TupAt K H F a vs) (r : Reps K H F μ vs ds) : ItOk K H F μ (FwE.IteT K a) (enumD 0 ds) := by
  refine ⟨fun H1 => SqT K H1 a vs, YPair (fun i => some (.int (i : Nat))) (fun i => vs[i]?), ?_, fun H1 F1 μ1 m => (h.mo m).sq, fun i H1 x H2 hi y F1 μ1 m tr => ?_⟩
  · rw [enum_len, ← r.length]
    refine ⟨fun i _ hi q => ⟨vs, vs[i], q, by simp [hi]⟩, fun _ q => ⟨vs, q, Nat.le_refl _⟩, fun i H v H' _ q y => ?_⟩
    obtain ⟨T, x, h1, h2, h3, h4⟩ := y
    exact ⟨T, .int (i : Nat), x, h1, h2, h3, rfl, h4 vs q⟩
  · obtain ⟨T, x, z, rfl, hT, rfl, hx, hz⟩ := y
    cases hx
    obtain ⟨e, e2, r2⟩ := (r.mo' m).get hz
    refine ⟨.inr ⟨T, _, hT, rfl⟩, _, enum_get e2, rep_pair ?_ r2 hT tr⟩
    rw [Nat.zero_add]
    exact .int _
end
theorem lst_ofS {K : PySem.W.Frag} {H : Hp} {N : Addr → Prop} {μ : List Addr} {v : V} {ds : List Dat} (r : Rep K H (Fo μ N) μ v (.lst ds)) : ∃ a vs, v = .ref a ∧ H a = some (.lst vs) ∧ ¬ Fo μ N a ∧ Reps K H (Fo μ N) μ vs ds := by
  cases r with
  | lst h f r => exact ⟨_, _, rfl, h, f, r⟩
theorem tup_ofS {K : PySem.W.Frag} {H : Hp} {N : Addr → Prop} {μ : List Addr} {v : V} {ds : List Dat} (r : Rep K H (Fo μ N) μ v (.tup ds)) : ∃ a vs, v = .ref a ∧ TupAt K H (Fo μ N) a vs ∧ Reps K H (Fo μ N) μ vs ds := by
  cases r with
  | tup h r => exact ⟨_, _, rfl, h, r⟩
section
variable {X : Cx} {Γ : Ctx} {Φ : Nat → List Dat → M Dat} {k : Nat}
/-- behind an iterator's pieces, at a datum -/
theorem beh_it {K : PySem.W.Frag} {H : Hp} {N : Addr → Prop} {μ : List Addr} {st : Store} {R : It → Hp → Prop} {items : List Dat} {J : It} (q : ∀ J H' μ', Eff H μ H' μ' → WOk K H' N μ' st → ItOk K H' (Fo μ' N) μ' J items → R J H') {H' : Hp} {μ' : List Addr} (ef : Eff H μ H' μ') (w : WOk K H' N μ' st) (it : ItOk K H' (Fo μ' N) μ' J items) : R J H' := q J H' μ' ef w it
theorem i_seq {a : IE} {tg x : Expr} (ha : PE X x (rdg X.K a (den Φ a))) : PI X tg x (rdI X.K (denI Φ (.seq a))) := by
  have hS := rdg_toS ha
  refine PI.imp (PI.or (pi_list hS) (PI.or (pi_tup hS) (pi_str hS))) fun σ H R ⟨N, μ, st, ρ, w, er, p⟩ => ?_
  have p1 := post_bind p
  have p0 := p1
  cases e : sd a ρ (den Φ a ρ) st with
  | exc x s => rw [e] at p1; exact p1.elim
  | err => rw [e] at p1; exact p1.elim
  | ok d s =>
    rw [e] at p1
    obtain ⟨items, hi, q⟩ := post_mo (show post (mo (itemsOf d) s) _ from p1)
    have go : ∀ {T : VK}, (∀ v H' μ', Eff H μ H' μ' → WOk X.K H' N μ' s → Rep X.K H' (Fo μ' N) μ' v d → T v H') → rd X.K (RepS X.K) (fun ρ => sd a ρ (den Φ a ρ)) σ H T := fun h => ⟨N, μ, st, ρ, w, er, by show post (sd a ρ (den Φ a ρ) st) _; rw [e]; exact h⟩
    cases d <;> first | (cases hi; done) | skip
    · cases hi
      refine .inr (.inr (go fun v H' μ' ef w' r => ?_))
      cases r
      exact ⟨_, rfl, q _ H' μ' ef w' it_str⟩
    · cases hi
      refine .inr (.inl (go fun v H' μ' ef w' r => ?_))
      obtain ⟨a, vs, rfl, h1, h2⟩ := tup_ofS r
      exact ⟨a, rfl, ⟨vs, h1.sq⟩, q _ H' μ' ef w' (it_tup h1 h2)⟩
    · cases hi
      refine .inl (go fun v H' μ' ef w' r => ?_)
      obtain ⟨a, vs, rfl, h1, f, h2⟩ := lst_ofS r
      exact ⟨a, rfl, ⟨vs, SqL.of h1⟩, q _ H' μ' ef w' (it_list h1 f h2)⟩
theorem range1_inv {x : Dat} {items : List Dat} (h : range1Of x = some items) : ∃ j, x = .int j ∧ okR j = true ∧ rangeD 0 j.toNat = items := by
  unfold range1Of at h
  split at h
  · split at h
    · exact ⟨_, rfl, ‹_›, Option.some.inj h⟩
    · cases h
  · cases h
theorem range2_inv {x y : Dat} {items : List Dat} (h : range2Of x y = some items) : ∃ i j, x = .int i ∧ y = .int j ∧ (okR i && okR j) = true ∧ rangeD i (j - i).toNat = items := by
  unfold range2Of at h
  split at h
  · split at h
    · exact ⟨_, _, rfl, rfl, ‹_›, Option.some.inj h⟩
    · cases h
  · cases h
theorem zip_inv {x y : Dat} {items : List Dat} (h : zipOf x y = some items) : (∃ ds es, x = .tup ds ∧ y = .tup es ∧ zipD ds es = items) ∨ (∃ ds es, x = .lst ds ∧ y = .lst es ∧ zipD ds es = items) := by
  unfold zipOf at h
  split at h
  · exact .inl ⟨_, _, rfl, rfl, Option.some.inj h⟩
  · exact .inr ⟨_, _, rfl, rfl, Option.some.inj h⟩
  · cases h
theorem enum_inv {x : Dat} {items : List Dat} (h : enumOf x = some items) : (∃ ds, x = .tup ds ∧ enumD 0 ds = items) ∨ (∃ ds, x = .lst ds ∧ enumD 0 ds = items) := by
  unfold enumOf at h
  split at h
  · exact .inl ⟨_, rfl, Option.some.inj h⟩
  · exact .inr ⟨_, rfl, Option.some.inj h⟩
  · cases h
theorem i_range1 {a : IE} {tg y : Expr} {p pos : Pos} (C : CtxOk X Γ Φ k) (hg : glB Γ ("range" : Str) = true) (hs : isStar y = false) (ha : PE X y (rdg X.K a (den Φ a))) : PI X tg (.Call (.Name "range" p) [y] [] pos) (rdI X.K (denI Φ (.range1 a))) := by
  obtain ⟨g1, g2⟩ := C.gl_ hg
  refine PI.imp (pi_range1 g1 (C.blt _ (by decide)) (pa_cons (rdg_toS ha) pa_nil (star1 hs _ _)) (star1 hs _ _)) fun σ H R ⟨N, μ, st, ρ, w, er, p⟩ => ?_
  refine rd_bind w er p fun x s v H1 μ1 ef w1 er1 r1 p1 => ?_
  obtain ⟨items, hi, q⟩ := post_mo p1
  obtain ⟨j, rfl, hj, rfl⟩ := range1_inv hi
  unfold okR at hj
  have hj := of_decide_eq_true hj
  cases r1
  exact ⟨j, rfl, hj.1, hj.2, q _ H1 μ1 ef w1 it_range⟩
theorem i_range2 {a b : IE} {tg y z : Expr} {p pos : Pos} (C : CtxOk X Γ Φ k) (hg : glB Γ ("range" : Str) = true) (hs : isStar y = false) (hs2 : isStar z = false) (ha : PE X y (rdg X.K a (den Φ a))) (hb : PE X z (rdg X.K b (den Φ b))) : PI X tg (.Call (.Name "range" p) [y, z] [] pos) (rdI X.K (denI Φ (.range2 a b))) := by
  obtain ⟨g1, g2⟩ := C.gl_ hg
  refine PI.imp (pi_range2 g1 (C.blt _ (by decide)) (pa_cons (rdg_toS ha) (pa_cons (rdg_toS hb) pa_nil (star1 hs2 _ _)) (star1 hs _ _)) (by rw [star1 hs, star1 hs2]; rfl) (by rw [star1 hs2]; rfl)) fun σ H R ⟨N, μ, st, ρ, w, er, p⟩ => ?_
  refine rd_bind w er p fun x s v H1 μ1 ef w1 er1 r1 p1 => ?_
  refine rd_bind w1 er1 p1 fun x2 s2 v2 H2 μ2 ef2 w2 er2 r2 p2 => ?_
  obtain ⟨items, hi, q⟩ := post_mo p2
  obtain ⟨i, j, rfl, rfl, hj, rfl⟩ := range2_inv hi
  rw [Bool.and_eq_true] at hj
  unfold okR at hj
  have h1 := of_decide_eq_true hj.1
  have h2 := of_decide_eq_true hj.2
  cases r1
  cases r2
  exact ⟨i, j, rfl, ⟨h1.1, h1.2, h2.1, h2.2⟩, q _ H2 μ2 (ef.trans ef2) w2 it_range⟩
theorem i_zip {a b : IE} {y z : Expr} {es : List Expr} {n : Nat} {p pos tpos : Pos} (C : CtxOk X Γ Φ k) (hg : glB Γ ("zip" : Str) = true) (hs : isStar y = false) (hs2 : isStar z = false) (ha : PE X y (rdg X.K a (den Φ a))) (hb : PE X z (rdg X.K b (den Φ b))) : PI X (.Tuple es n tpos) (.Call (.Name "zip" p) [y, z] [] pos) (rdI X.K (denI Φ (.zip a b))) := by
  obtain ⟨g1, g2⟩ := C.gl_ hg
  refine PI.imp (pi_zipA g1 (C.blt _ (by decide)) (pa_cons (rdg_toS ha) (pa_cons (rdg_toS hb) pa_nil (star1 hs2 _ _)) (star1 hs _ _)) (by rw [star1 hs]) (nost (es := [z]) (fun e he => by rw [List.mem_singleton.mp he]; exact hs2) _ _)) fun σ H R ⟨N, μ, st, ρ, w, er, p⟩ => ?_
  refine rd_bind w er p fun x s v H1 μ1 ef w1 er1 r1 p1 => ?_
  refine rd_bind w1 er1 p1 fun x2 s2 v2 H2 μ2 ef2 w2 er2 r2 p2 => ?_
  obtain ⟨items, hi, q⟩ := post_mo p2
  have r1' := Rep.mo' r1 (ef2.mo (N := N))
  rcases zip_inv hi with ⟨ds, es, rfl, rfl, rfl⟩ | ⟨ds, es, rfl, rfl, rfl⟩
  · obtain ⟨a1, vs1, rfl, h1, h2⟩ := tup_ofS r1'
    obtain ⟨a2, vs2, rfl, h3, h4⟩ := tup_ofS r2
    exact ⟨a1, a2, vs1, vs2, rfl, .inr ⟨h1.sq, h3.sq, q _ H2 μ2 (ef.trans ef2) w2 (it_zipT h1 h2 h3 h4)⟩⟩
  · obtain ⟨a1, vs1, rfl, h1, f1, h2⟩ := lst_ofS r1'
    obtain ⟨a2, vs2, rfl, h3, f3, h4⟩ := lst_ofS r2
    exact ⟨a1, a2, vs1, vs2, rfl, .inl ⟨SqL.of h1, SqL.of h3, q _ H2 μ2 (ef.trans ef2) w2 (it_zipL h1 f1 h2 h3 f3 h4)⟩⟩
theorem i_enum {a : IE} {y : Expr} {es : List Expr} {n : Nat} {p pos tpos : Pos} (C : CtxOk X Γ Φ k) (hg : glB Γ ("enumerate" : Str) = true) (hs : isStar y = false) (ha : PE X y (rdg X.K a (den Φ a))) : PI X (.Tuple es n tpos) (.Call (.Name "enumerate" p) [y] [] pos) (rdI X.K (denI Φ (.enum a))) := by
  obtain ⟨g1, g2⟩ := C.gl_ hg
  refine PI.imp (FwE.pi_enumA g1 (C.blt _ (by decide)) (pa_cons (rdg_toS ha) pa_nil (star1 hs _ _)) (star1 hs _ _)) fun σ H R ⟨N, μ, st, ρ, w, er, p⟩ => ?_
  refine rd_bind w er p fun x s v H1 μ1 ef w1 er1 r1 p1 => ?_
  obtain ⟨items, hi, q⟩ := post_mo p1
  rcases enum_inv hi with ⟨ds, rfl, rfl⟩ | ⟨ds, rfl, rfl⟩
  · obtain ⟨a1, vs1, rfl, h1, h2⟩ := tup_ofS r1
    exact ⟨a1, vs1, rfl, .inr ⟨h1.sq, q _ H1 μ1 ef w1 (it_enumT h1 h2)⟩⟩
  · obtain ⟨a1, vs1, rfl, h1, f1, h2⟩ := lst_ofS r1
    exact ⟨a1, vs1, rfl, .inl ⟨SqL.of h1, q _ H1 μ1 ef w1 (it_enumL h1 f1 h2)⟩⟩
end
end Fw
end
-- Fw10
section
set_option Elab.async false
set_option linter.all false
set_option maxRecDepth 100000
set_option maxHeartbeats 4000000
/-! Fw10: targets, comprehensions. -/
namespace Fw
open PySem PySem.Spec PyProof.Rows L2 RZ
theorem no_some {α : Type} {x : α} {P : Prop} (h : none = some x) : P := nomatch h
/-- only these slots may differ -/
def SetAt (is : List Nat) (σ σ' : L2.St) : Prop := σ'.length = σ.length ∧ ∀ j, j ∉ is → σ'[j]? = σ[j]?
theorem SetAt.trans {is js : List Nat} {a b c : L2.St} (h : SetAt is a b) (h' : SetAt js b c) : SetAt (is ++ js) a c :=
  ⟨h'.1.trans h.1, fun j hj => by
    rw [h'.2 j fun q => hj (List.mem_append_right _ q), h.2 j fun q => hj (List.mem_append_left _ q)]⟩
def gT (K : PySem.W.Frag) (t : IT) : TG := fun v σ H Q => ∃ N μ st ρ d ρ', WOk K H N μ st ∧ ER K H N μ σ ρ ∧ Rep K H (Fo μ N) μ v d ∧ bindT t d ρ = some ρ' ∧ ∀ σ', ER K H N μ σ' ρ' → SetAt (slotsT t) σ σ' → Q σ' H
def gTs (K : PySem.W.Frag) (t : ITs) : TGs := fun v σ H Q => ∃ N μ st ρ d ρ', WOk K H N μ st ∧ ER K H N μ σ ρ ∧ Reps K H (Fo μ N) μ v d ∧ bindTs t d ρ = some ρ' ∧ ∀ σ', ER K H N μ σ' ρ' → SetAt (slotsTs t) σ σ' → Q σ' H
theorem ER.set {K : PySem.W.Frag} {H : Hp} {N : Addr → Prop} {μ : List Addr} {σ : L2.St} {ρ : Env} {i : Nat} {v : V} {d : Dat} (e : ER K H N μ σ ρ) (r : Rep K H (Fo μ N) μ v d) : ER K H N μ (σ.set i (some v)) (ρ.set i (.v d)) := by
  refine ⟨by rw [List.length_set, List.length_set]; exact e.1, fun j s h => ?_⟩
  by_cases hj : i = j
  · subst hj
    by_cases hi : i < ρ.length
    · rw [List.getElem?_set_self hi] at h
      cases h
      refine ⟨v, ?_, r⟩
      rw [List.getElem?_set_self (by rw [e.1]; exact hi)]
    · rw [List.getElem?_eq_none (by rw [List.length_set]; omega)] at h
      cases h
  · rw [List.getElem?_set_ne hj] at h
    have q := e.2 j s h
    cases s with
    | un => exact True.intro
    | v d =>
      obtain ⟨v', q1, q2⟩ := q
      exact ⟨v', by rw [List.getElem?_set_ne hj]; exact q1, q2⟩
    | o ds =>
      obtain ⟨a, vs, q1, q2⟩ := q
      exact ⟨a, vs, by rw [List.getElem?_set_ne hj]; exact q1, q2⟩
section
variable {X : Cx} {Γ : Ctx} {Φ : Nat → List Dat → M Dat} {k : Nat}
theorem CtxOk.loc {x : Str} (C : CtxOk X Γ Φ k) (h : locB Γ x = true) : Loc X.env.scope x ∧ (X.fn x = true ∨ X.env.scope.names.lookup x = some .local) := by
  unfold locB at h
  rw [← C.sc] at h
  split at h
  · rename_i h1
    exact ⟨.inl h1, .inr h1⟩
  · rename_i h1
    exact ⟨.inr h1, .inl (C.fn x h)⟩
  · cases h
theorem each_of : ∀ {ts : ITs} {es : List Expr}, chkTs Γ ts es = true → ∀ env : PySem.Env, (assignEach es env).findIdx? (·.1) = none ∧ (assignEach es env).map (·.2) = es.map fun e => assign e env
  | .nil, [], _ => fun _ => ⟨rfl, rfl⟩
  | .nil, _ :: _, h => nomatch h
  | .cons _ _, [], h => nomatch h
  | .cons t r, e :: es, h => fun env => by
    have h' : (!isStar e && chkT Γ t e && chkTs Γ r es) = true := h
    rw [Bool.and_eq_true, Bool.and_eq_true] at h'
    obtain ⟨i1, i2⟩ := each_of h'.2 env
    have hs : assignEach (e :: es) env = (false, assign e env) :: assignEach es env := by
      have := h'.1.1
      cases e <;> first | rfl | (exact nomatch this)
    rw [hs]
    refine ⟨?_, by rw [List.map_cons, List.map_cons, i2]⟩
    rw [List.findIdx?_cons, i1]
    rfl
theorem each_len : ∀ {ts : ITs} {es : List Expr}, chkTs Γ ts es = true → ∀ env : PySem.Env, (assignEach es env).length = es.length := fun h env => by
  have := congrArg List.length (each_of h env).2
  rw [List.length_map, List.length_map] at this
  exact this
theorem bindTs_len : ∀ {ts : ITs} {es : List Expr} {ds : List Dat} {ρ ρ' : Env}, chkTs Γ ts es = true → bindTs ts ds ρ = some ρ' → ds.length = es.length
  | .nil, [], [], _, _, _, _ => rfl
  | .nil, [], _ :: _, _, _, _, h => nomatch h
  | .nil, _ :: _, _, _, _, h, _ => nomatch h
  | .cons _ _, [], _, _, _, h, _ => nomatch h
  | .cons _ _, _ :: _, [], _, _, _, h => nomatch h
  | .cons t r, e :: es, d :: ds, ρ, ρ', h, hb => by
    have h' : (!isStar e && chkT Γ t e && chkTs Γ r es) = true := h
    rw [Bool.and_eq_true] at h'
    have hb' : (match bindT t d ρ with
      | some ρ' => bindTs r ds ρ'
      | none => none) = some ρ' := hb
    cases q : bindT t d ρ with
    | none => rw [q] at hb'; cases hb'
    | some ρ1 =>
      rw [q] at hb'
      rw [List.length_cons, List.length_cons, bindTs_len h'.2 hb']
mutual
theorem snd_T (C : CtxOk X Γ Φ k) : ∀ (t : IT) (e : Expr), chkT Γ t e = true → PG X e (gT X.K t)
  | .var i, e, h => by
    cases e <;> first | (exact absurd h Bool.false_ne_true) | skip
    rename_i x pos
    have h' : (nameAt Γ i x && locB Γ x) = true := h
    rw [Bool.and_eq_true] at h'
    obtain ⟨l1, l2⟩ := C.loc h'.2
    refine PG.imp (pg_name C.nd (C.at h'.1) l1 l2) fun v σ H Q ⟨N, μ, st, ρ, d, ρ', w, er, r, hb, q⟩ => ?_
    have hb' : some (ρ.set i (.v d)) = some ρ' := hb
    cases hb'
    refine q _ (er.set r) ⟨by rw [List.length_set], fun j hj => ?_⟩
    exact List.getElem?_set_ne fun z => hj (by subst z; exact List.mem_singleton.mpr rfl)
  | .tup ts, e, h => by
    cases e <;> first | (exact absurd h Bool.false_ne_true) | skip
    rename_i es n pos
    have h' : chkTs Γ ts es = true := h
    obtain ⟨a1, a2⟩ := each_of h' X.env
    refine PG.imp (pg_tup C.calm (snd_Ts C ts es h') rfl a1) fun v σ H Q ⟨N, μ, st, ρ, d, ρ', w, er, r, hb, q⟩ => ?_
    cases d <;> first | (exact no_some hb) | skip
    rename_i ds
    obtain ⟨a, vs, rfl, h1, h2⟩ := tup_ofS r
    have hb' : bindTs ts ds ρ = some ρ' := hb
    refine ⟨a, vs, rfl, h1.sq, ?_, N, μ, st, ρ, ds, ρ', w, er, h2, hb', q⟩
    rw [h2.length, each_len h' X.env]
    exact bindTs_len h' hb'
theorem snd_Ts (C : CtxOk X Γ Φ k) : ∀ (ts : ITs) (es : List Expr), chkTs Γ ts es = true → PGs X es (gTs X.K ts)
  | .nil, es, h => by
    cases es <;> first | (exact absurd h Bool.false_ne_true) | skip
    refine PGs.imp pgs_nil fun vs σ H Q ⟨N, μ, st, ρ, ds, ρ', w, er, r, hb, q⟩ => ?_
    cases ds <;> first | (exact no_some hb) | skip
    cases r
    cases hb
    exact ⟨rfl, q σ er ⟨rfl, fun _ _ => rfl⟩⟩
  | .cons t rs, es, h => by
    cases es <;> first | (exact absurd h Bool.false_ne_true) | skip
    rename_i e es
    have h' : (!isStar e && chkT Γ t e && chkTs Γ rs es) = true := h
    rw [Bool.and_eq_true, Bool.and_eq_true] at h'
    have hs : (assignEach (e :: es) X.env).map (·.2) = assign e X.env :: (assignEach es X.env).map (·.2) := by
      have := h'.1.1
      cases e <;> first | rfl | (exact nomatch this)
    refine PGs.imp (pgs_cons (snd_T C t e h'.1.2) (snd_Ts C rs es h'.2) hs) fun vs σ H Q ⟨N, μ, st, ρ, ds, ρ', w, er, r, hb, q⟩ => ?_
    cases ds <;> first | (exact no_some hb) | skip
    rename_i d ds
    cases r with
    | cons r1 r2 =>
      have hb' : (match bindT t d ρ with
        | some ρ' => bindTs rs ds ρ'
        | none => none) = some ρ' := hb
      cases e1 : bindT t d ρ with
      | none => rw [e1] at hb'; cases hb'
      | some ρ1 =>
        rw [e1] at hb'
        refine ⟨_, _, rfl, N, μ, st, ρ, d, ρ1, w, er, r1, e1, fun σ1 er1 s1 => ?_⟩
        exact ⟨N, μ, st, ρ1, ds, ρ', w, er1, r2, hb', fun σ2 er2 s2 => q σ2 er2 (s1.trans s2)⟩
end
theorem ctx_blk {scope : Scope} (C : CtxOk X Γ Φ k) (s : Shared) (H : Hp) (D : Addr) (cl : List (Str × Addr)) (fp : List Addr) : CtxOk (X.blk s H scope (compEnvC scope cl D X.env) fp) (blk Γ scope) Φ k :=
  ⟨C.N, C.nd, by show (compEnvC scope cl D X.env).scope = relS scope Γ.sc; rw [← C.sc]; rfl, C.calm, rfl, fun _ h => h, C.room, C.fns, C.blt, C.gl⟩
theorem wipeE_len (ρ : Env) : ∀ vs : List Nat, (wipeE ρ vs).length = ρ.length
  | [] => rfl
  | v :: vs => by unfold wipeE; rw [List.length_set, wipeE_len ρ vs]
theorem wipeE_get {ρ : Env} {i : Nat} {s : Sl} : ∀ {vs : List Nat}, (wipeE ρ vs)[i]? = some s → s = .un ∨ (ρ[i]? = some s ∧ i ∉ vs)
  | [], h => .inr ⟨h, by simp⟩
  | v :: vs, h => by
    unfold wipeE at h
    by_cases hv : v = i
    · subst hv
      by_cases hl : v < (wipeE ρ vs).length
      · rw [List.getElem?_set_self hl] at h
        exact .inl (Option.some.inj h).symm
      · rw [List.getElem?_eq_none (by rw [List.length_set]; omega)] at h
        cases h
    · rw [List.getElem?_set_ne hv] at h
      rcases wipeE_get h with h | ⟨h, n⟩
      · exact .inl h
      · exact .inr ⟨h, by simp only [List.mem_cons, not_or]; exact ⟨fun z => hv z.symm, n⟩⟩
theorem wipe_get {σ : L2.St} {i : Nat} : ∀ {vs : List Nat}, i ∉ vs → (wipe σ vs)[i]? = σ[i]?
  | [], _ => rfl
  | v :: vs, h => by
    unfold wipe
    simp only [List.mem_cons, not_or] at h
    rw [List.getElem?_set_ne fun z => h.1 z.symm]
    exact wipe_get h.2
theorem ER.wipe {K : PySem.W.Frag} {H : Hp} {N : Addr → Prop} {μ : List Addr} {σ : L2.St} {ρ : Env} (e : ER K H N μ σ ρ) (vs : List Nat) : ER K H N μ (L2.wipe σ vs) (wipeE ρ vs) := by
  refine ⟨by rw [wipe_length, wipeE_len]; exact e.1, fun i s h => ?_⟩
  rcases wipeE_get h with rfl | ⟨h, n⟩
  · exact True.intro
  · have q := e.2 i s h
    cases s with
    | un => exact True.intro
    | v d =>
      obtain ⟨v', q1, q2⟩ := q
      exact ⟨v', by rw [wipe_get n]; exact q1, q2⟩
    | o ds =>
      obtain ⟨a, us, q1, q2⟩ := q
      exact ⟨a, us, by rw [wipe_get n]; exact q1, q2⟩
theorem wipe_same {is : List Nat} {σ σ' : L2.St} {vs : List Nat} (h : SetAt is σ σ') (hs : ∀ i ∈ is, i ∈ vs) : L2.wipe σ' vs = L2.wipe σ vs := by
  apply List.ext_getElem?
  intro i
  by_cases hi : i ∈ vs
  · have key : ∀ (τ : L2.St) (us : List Nat), i ∈ us → (L2.wipe τ us)[i]? = if i < τ.length then some none else none := by
      intro τ us
      induction us with
      | nil => intro h; cases h
      | cons u us ih =>
        intro hu
        unfold L2.wipe
        by_cases hui : u = i
        · subst hui
          by_cases hl : u < τ.length
          · rw [List.getElem?_set_self (by rw [wipe_length]; exact hl), if_pos hl]
          · rw [List.getElem?_eq_none (by rw [List.length_set, wipe_length]; omega), if_neg hl]
        · rw [List.getElem?_set_ne hui]
          rcases List.mem_cons.mp hu with rfl | hu
          · exact absurd rfl hui
          · exact ih hu
    rw [key _ _ hi, key _ _ hi, h.1]
  · rw [wipe_get hi, wipe_get hi]
    exact h.2 i fun z => hi (hs i z)
theorem folded_of {e : Expr} (h : isSet e = false) (env : PySem.Env) (x : Value) : foldedSetIterable e env x = pure x := by cases e <;> first | rfl | cases h
theorem own_snd (Γ : Ctx) (own : List Nat) : (ownN Γ own).map (·.2) = own := by
  unfold ownN
  rw [List.map_map]
  exact List.map_id _

/-- a comprehension's piece -/
def compG (Φ : Nat → List Dat → M Dat) (own : List Nat) (elt : IE) (t : IT) (c : IEs) (ρ : Env) (x : Dat) : M (Option Dat) := match bindT t x (wipeE ρ own) with
  | some ρ' => mbind (denC Φ c ρ') fun k => if k then mbind (sd elt ρ' (den Φ elt ρ')) fun y => mpure (some y) else mpure none
  | none => merr
theorem WOk.addN {K : PySem.W.Frag} {H : Hp} {N : Addr → Prop} {μ : List Addr} {st : Store} {D : Addr} {vs : List V} (w : WOk K H N μ st) (hD : H D = none) : WOk K (upd H D (.lst vs)) (fun a => N a ∨ a = D) μ st := by
  have w' := w.new (o := .lst vs) hD
  have hf := w.free hD
  refine ⟨w'.len, w'.nd, fun n a c h1 h2 => ?_, fun a h => ?_, fun a h => ?_⟩
  · have q := w.cell n a c h1 h2
    cases c with
    | lst ds =>
      obtain ⟨us, q1, q2⟩ := q
      refine ⟨us, by rw [upd_ne (ne_of_none q1 hD)]; exact q1, q2.mo' ⟨fun a o h _ => by rw [upd_ne (ne_of_none h hD)]; exact h, fun a h => ?_, fun _ _ h => h⟩⟩
      rcases h with h | h | h
      · exact .inl (.inl h)
      · exact .inl (.inr h)
      · subst h; exact .inr hD
  · rintro (h' | h')
    · exact w.sep a h h'
    · subst h'; exact hf (.inl h)
  · rcases h with h | h
    · exact w'.trk a h
    · subst h; rw [upd_same]; exact fun z => nomatch z
theorem WOk.subN {K : PySem.W.Frag} {H : Hp} {N N' : Addr → Prop} {μ : List Addr} {st : Store} (w : WOk K H N' μ st) (h : ∀ a, N a → N' a) : WOk K H N μ st := by
  refine ⟨w.len, w.nd, fun n a c h1 h2 => ?_, fun a h1 h2 => w.sep a h1 (h a h2), fun a h1 => w.trk a (h a h1)⟩
  have q := w.cell n a c h1 h2
  cases c with
  | lst ds =>
    obtain ⟨us, q1, q2⟩ := q
    refine ⟨us, q1, q2.mo' ⟨fun _ _ h _ => h, fun a hh => ?_, fun _ _ h => h⟩⟩
    rcases hh with hh | hh
    · exact .inl (.inl hh)
    · exact .inl (.inr (h a hh))
/-- a list outside the store, not leant on by others, is changed -/
theorem WOk.updN {K : PySem.W.Frag} {H : Hp} {N : Addr → Prop} {μ : List Addr} {st : Store} {D : Addr} {vs : List V} (w : WOk K H N μ st) (hD : N D) : WOk K (upd H D (.lst vs)) N μ st := by
  refine ⟨w.len, w.nd, fun n a c h1 h2 => ?_, w.sep, fun a h => ?_⟩
  · have q := w.cell n a c h1 h2
    have hne : a ≠ D := fun z => w.sep a (List.mem_of_getElem? h1) (by rw [z]; exact hD)
    cases c with
    | lst ds =>
      obtain ⟨us, q1, q2⟩ := q
      refine ⟨us, by rw [upd_ne hne]; exact q1, q2.mo' ⟨fun a o h f => ?_, fun _ h => .inl h, fun _ _ h => h⟩⟩
      rw [upd_ne fun z => f (.inr (by rw [z]; exact hD))]
      exact h
  · by_cases z : a = D
    · subst z; rw [upd_same]; exact fun z => nomatch z
    · rw [upd_ne z]; exact w.trk a h
theorem mo_updN {H : Hp} {N : Addr → Prop} {μ : List Addr} {D : Addr} {o : HO} (hD : N D) : Mo H (Fo μ N) μ (upd H D o) (Fo μ N) μ :=
  ⟨fun a u h f => by rw [upd_ne fun z => f (.inr (by rw [z]; exact hD))]; exact h, fun _ h => .inl h, fun _ _ h => h⟩
theorem imp_comp {K : PySem.W.Frag} {own : List Nat} {elt : IE} {t : IT} {it : II} {c : IEs} (hsl : (slotsT t).all (fun i => own.contains i) = true) {σ : L2.St} {H : Hp} {Q : VK} (h : rd K (RepS K) (den Φ (.comp own elt t it c)) σ H Q) :
    tLc (rdI K (denI Φ it)) (gT K t) (rdt K (denC Φ c)) (rd K (RepS K) (fun ρ => sd elt ρ (den Φ elt ρ))) own σ H Q := by
  obtain ⟨N, μ, st, ρ, w, er, p⟩ := h
  refine ⟨N, μ, st, ρ, w, er, post_mono (post_bind p) fun items s1 p1 J H1 μ1 ef1 w1 iok D hD => ?_⟩
  have er1 := er.eff w ef1
  have p2 : post (compL (compG Φ own elt t c ρ) items s1) fun ys s => ys.length ≤ sizeLine ∧ Beh K (RepS K) H N μ Q (.lst ys) s := post_mono (post_bind (post_nox p1)) fun ys s q => by
    obtain ⟨d, e, b⟩ := post_mo q
    split at e
    · cases e; exact ⟨‹_›, b⟩
    · cases e
  obtain ⟨G, Y, walk, hG, hY⟩ := iok
  generalize hN' : (fun a => N a ∨ a = D) = N'
  have nD : N' D := by rw [← hN']; exact .inr rfl
  have nN : ∀ a, N a → N' a := fun a h => by rw [← hN']; exact .inl h
  have hDf : ¬ N D := fun h => w1.free hD (.inr h)
  refine lc_it walk (fun i Hc => ∃ μc sc acc accd, Eff H1 μ1 Hc μc ∧ WOk K Hc N' μc sc ∧ (∀ a o, N a → H1 a = some o → Hc a = some o) ∧ Hc D = some (.lst acc) ∧ Reps K Hc (Fo μc N') μc acc accd ∧
    post (compL (compG Φ own elt t c ρ) (items.drop i) sc) fun ys s => (accd ++ ys).length ≤ sizeLine ∧ Beh K (RepS K) H N μ Q (.lst (accd ++ ys)) s) ?_ ?_ ?_ ?_
  · refine ⟨μ1, s1, [], [], eff_new hD, by rw [← hN']; exact w1.addN hD, fun a o _ h => by rw [upd_ne (ne_of_none h hD)]; exact h, upd_same, .nil, ?_⟩
    exact p2
  · rintro i Hc _ ⟨μc, sc, acc, accd, ef, wc, kN, hDc, hr, pc⟩
    exact hG Hc (Fo μc N') μc ⟨fun a o h f => ef.keep a o h fun q => f (.inl q), fun a h => by
      rcases h with h | h
      · rcases ef.new a h with q | q
        · exact .inl (.inl q)
        · exact .inr q
      · rw [← hN'] at h
        rcases h with h | h
        · exact .inl (.inr h)
        · subst h; exact .inr hD, ef.pre⟩
  · rintro i v Hc H' hlt ⟨μc, sc, acc, accd, ef, wc, kN, hDc, hr, pc⟩ y
    have m1 : Mo H1 (Fo μ1 N) μ1 Hc (Fo μc N') μc := ⟨fun a o h f => ef.keep a o h fun q => f (.inl q), fun a h => (by
      rcases h with h | h
      · rcases ef.new a h with q | q
        · exact .inl (.inl q)
        · exact .inr q
      · rw [← hN'] at h
        rcases h with h | h
        · exact .inl (.inr h)
        · subst h; exact .inr hD), ef.pre⟩
    obtain ⟨hH, d, hd, rv⟩ := hY i Hc v H' hlt y (Fo μc N') μc m1 (fun a h => wc.there h)
    -- the world behind the iterator's turn
    have hw : WOk K H' N' μc sc ∧ Eff Hc μc H' μc ∧ (∀ a o, Hc a = some o → H' a = some o) := by
      rcases hH with rfl | ⟨T, xs, hT, rfl⟩
      · exact ⟨wc, Eff.refl, fun _ _ h => h⟩
      · exact ⟨wc.new hT, eff_new hT, fun a o h => by rw [upd_ne (ne_of_none h hT)]; exact h⟩
    obtain ⟨w', ef', up⟩ := hw
    have erW : ER K H' N' μc (L2.wipe σ own) (wipeE ρ own) := ER.wipe (er1.mo (m1.trans ef'.mo) (fun a o n h => up _ _ (kN a o n h)) nN) own
    have hdrop : items.drop i = d :: items.drop (i + 1) := by
      have hl := (List.getElem?_eq_some_iff.mp hd).1
      rw [List.drop_eq_getElem_cons hl]
      rw [List.getElem?_eq_getElem hl] at hd
      rw [Option.some.inj hd]
    rw [hdrop] at pc
    have pc1 : post (mbind (compG Φ own elt t c ρ d) (fun o => mbind (compL (compG Φ own elt t c ρ) (items.drop (i + 1))) fun r => mpure (match o with
      | some y => y :: r
      | none => r)) sc) _ := pc
    cases hb : bindT t d (wipeE ρ own) with
    | none =>
      have : compG Φ own elt t c ρ d = merr := by unfold compG; rw [hb]
      rw [this] at pc1
      exact pc1.elim
    | some ρ' =>
      have eG : compG Φ own elt t c ρ d = mbind (denC Φ c ρ') fun k => if k then mbind (sd elt ρ' (den Φ elt ρ')) fun y => mpure (some y) else mpure none := by unfold compG; rw [hb]
      rw [eG, bindbind] at pc1
      refine ⟨N', μc, sc, wipeE ρ own, d, ρ', w', erW, rv, hb, fun σ2 er2 st2 => ⟨?_, ?_⟩⟩
      · have e1 := wipe_same (vs := own) st2 fun j hj => by
          have := List.all_eq_true.mp hsl j hj
          simpa using this
        rw [e1]
        apply List.ext_getElem?
        intro j
        by_cases hj : j ∈ own
        · have key : ∀ (us : List Nat), j ∈ us → ∀ τ : L2.St, (L2.wipe τ us)[j]? = if j < τ.length then some none else none := by
            intro us
            induction us with
            | nil => intro h; cases h
            | cons u us ih =>
              intro hu τ
              unfold L2.wipe
              by_cases hui : u = j
              · subst hui
                by_cases hl : u < τ.length
                · rw [List.getElem?_set_self (by rw [wipe_length]; exact hl), if_pos hl]
                · rw [List.getElem?_eq_none (by rw [List.length_set, wipe_length]; omega), if_neg hl]
              · rw [List.getElem?_set_ne hui]
                rcases List.mem_cons.mp hu with rfl | hu
                · exact absurd rfl hui
                · exact ih hu τ
          rw [key own hj, key own hj, wipe_length]
        · rw [wipe_get hj]
      · refine ⟨N', μc, sc, ρ', w', er2, post_mono (post_bind pc1) fun b s3 p3 H3 μ3 ef3 w3 => ?_⟩
        have eff13 : Eff H1 μ1 H3 μ3 := (ef.trans ef').trans ef3
        have kN3 : ∀ a o, N a → H1 a = some o → H3 a = some o := fun a o n h => ef3.keep _ _ (up _ _ (kN a o n h)) fun z => w'.sep _ z (nN a n)
        have hD3 : H3 D = some (.lst acc) := ef3.keep _ _ (up _ _ hDc) fun z => w'.sep _ z nD
        have hr3 : Reps K H3 (Fo μ3 N') μ3 acc accd := (hr.mo' ef'.mo).mo' ef3.mo
        cases b with
        | false =>
          refine iteF ?_
          rw [if_neg Bool.false_ne_true] at p3
          have p4 : post (mbind (compL (compG Φ own elt t c ρ) (items.drop (i + 1))) (fun r => mpure r) s3) _ := p3
          refine ⟨μ3, s3, acc, accd, eff13, w3, kN3, hD3, hr3, ?_⟩
          exact post_mono (post_bind p4) fun ys s q => q
        | true =>
          refine iteT ?_
          rw [if_pos rfl] at p3
          rw [bindbind] at p3
          refine ⟨N', μ3, s3, ρ', w3, er2.eff w' ef3, post_mono (post_bind p3) fun yd s4 p4 yv H4 μ4 ef4 w4 r4 => ?_⟩
          have p5 : post (mbind (compL (compG Φ own elt t c ρ) (items.drop (i + 1))) (fun r => mpure (yd :: r)) s4) _ := p4
          have p6 := post_bind p5
          have hD4 : H4 D = some (.lst acc) := ef4.keep _ _ hD3 fun z => w3.sep _ z nD
          have hr4 := hr3.mo' (ef4.mo (N := N'))
          have mU : Mo H4 (Fo μ4 N') μ4 (upd H4 D (.lst (acc ++ [yv]))) (Fo μ4 N') μ4 := mo_updN nD
          refine ⟨acc, hD4, ?_, μ4, s4, acc ++ [yv], accd ++ [yd], ?_, w4.updN nD, ?_, upd_same, (hr4.append (.cons r4 .nil)).mo' mU, ?_⟩
          · -- room
            have := post_mono p6 (q := fun _ _ => acc.length < sizeLine) fun ys s q => by
              have q1 : (accd ++ (yd :: ys)).length ≤ sizeLine := q.1
              rw [List.length_append, List.length_cons] at q1
              rw [hr4.length]
              omega
            cases hres : compL (compG Φ own elt t c ρ) (items.drop (i + 1)) s4 with
            | ok a s => rw [hres] at this; exact this
            | exc a s => rw [hres] at this; exact this.elim
            | err => rw [hres] at this; exact this.elim
          · have e14 : Eff H1 μ1 H4 μ4 := eff13.trans ef4
            exact ⟨fun a o h f => by rw [upd_ne (ne_of_none h hD)]; exact e14.keep a o h f, e14.pre, e14.new⟩
          · intro a o n h
            rw [upd_ne (ne_of_none h hD)]
            exact ef4.keep _ _ (kN3 a o n h) fun z => w3.sep _ z (nN a n)
          · refine post_mono p6 fun ys s q => ?_
            rw [List.append_assoc]
            exact q
  · rintro Hc ⟨μc, sc, acc, accd, ef, wc, kN, hDc, hr, pc⟩
    rw [List.drop_length] at pc
    have pc' := (show post (mpure ([] : List Dat) sc) _ from pc)
    have q := (post_pure pc').2
    rw [List.append_nil] at q
    have wS := wc.subN nN
    refine q (.ref D) Hc μc (ef1.trans ef) wS (.lst hDc ?_ (hr.mo' ⟨fun _ _ h _ => h, fun a h => ?_, fun _ _ h => h⟩))
    · rintro (h | h)
      · exact wc.sep _ h nD
      · exact hDf h
    · rcases h with h | h
      · exact .inl (.inl h)
      · exact .inl (.inr (nN a h))
theorem s_comp {own : List Nat} {elt : IE} {t : IT} {it : II} {c : IEs} {x tg iter : Expr} {ifs : List Expr} {scope : Scope} {pos : Pos} (C : CtxOk X Γ Φ k) (hi : PI X tg iter (rdI X.K (denI Φ it))) (hset : isSet iter = false) (hok : blkC Γ.N Γ.sc scope (ownN Γ own) = true)
    (hsl : (slotsT t).all (fun i => own.contains i) = true)
    (hg : ∀ X' : Cx, CtxOk X' (blk Γ scope) Φ k → X'.K = X.K → PG X' tg (gT X.K t)) (hc : ∀ X' : Cx, CtxOk X' (blk Γ scope) Φ k → X'.K = X.K → PTs X' ifs (rdt X.K (denC Φ c)))
    (he : ∀ X' : Cx, CtxOk X' (blk Γ scope) Φ k → X'.K = X.K → PE X' x (rd X.K (RepS X.K) (fun ρ => sd elt ρ (den Φ elt ρ)))) :
    PE X (.ListComp x [⟨tg, iter, ifs, 0⟩] scope pos) (rd X.K (RepS X.K) (den Φ (.comp own elt t it c))) := by
  have ok : BlkOk X.N X.env.scope scope (ownN Γ own) := by
    rw [C.N, C.sc]
    exact blkOk_by hok
  refine PE.imp (pe_lc C.calm C.nd hi ok (fun s H D cl fp => hg _ (ctx_blk C s H D cl fp) rfl) (fun s H D cl fp => hc _ (ctx_blk C s H D cl fp) rfl) (fun s H D cl fp => he _ (ctx_blk C s H D cl fp) rfl) (folded_of hset X.env)) fun σ H Q h => ?_
  rw [own_snd]
  exact imp_comp hsl h
/-- name = [..] on one line, the name a local: stored within the comprehension -/
theorem s_setComp {i : Nat} {y : Str} {py spos : Pos} {own : List Nat} {elt : IE} {t : IT} {it : II} {c : IEs} {x tg iter : Expr} {ifs : List Expr} {scope : Scope} {pos : Pos} (C : CtxOk X Γ Φ k) (hy : nameAt Γ i y = true) (hyl : Γ.sc.names.lookup y = some .local)
    (hsw : swapsWith (.ListComp x [⟨tg, iter, ifs, 0⟩] scope pos) (some (.Name y py)) spos.line X.env = pure true) (hi : PI X tg iter (rdI X.K (denI Φ it))) (hset : isSet iter = false) (hok : blkC Γ.N Γ.sc scope (ownN Γ own) = true)
    (hsl : (slotsT t).all (fun i => own.contains i) = true)
    (hg : ∀ X' : Cx, CtxOk X' (blk Γ scope) Φ k → X'.K = X.K → PG X' tg (gT X.K t)) (hc : ∀ X' : Cx, CtxOk X' (blk Γ scope) Φ k → X'.K = X.K → PTs X' ifs (rdt X.K (denC Φ c)))
    (he : ∀ X' : Cx, CtxOk X' (blk Γ scope) Φ k → X'.K = X.K → PE X' x (rd X.K (RepS X.K) (fun ρ => sd elt ρ (den Φ elt ρ)))) :
    PS X (.Assign [.Name y py] (.ListComp x [⟨tg, iter, ifs, 0⟩] scope pos) spos) (tAsg (rd X.K (RepS X.K) (den Φ (.comp own elt t it c))) (gName i)) := by
  have ok : BlkOk X.N X.env.scope scope (ownN Γ own) := by
    rw [C.N, C.sc]
    exact blkOk_by hok
  refine PS.imp (ps_setLc C.calm C.nd (C.at hy) (by rw [C.sc]; exact hyl) hsw hi ok (fun s H D cl fp => hg _ (ctx_blk C s H D cl fp) rfl) (fun s H D cl fp => hc _ (ctx_blk C s H D cl fp) rfl) (fun s H D cl fp => he _ (ctx_blk C s H D cl fp) rfl) (folded_of hset X.env)) fun D σ H h => ?_
  rw [own_snd]
  exact imp_comp hsl h
end
end Fw
end
-- FwE3
section
set_option Elab.async false
set_option linter.all false
set_option maxRecDepth 100000
set_option maxHeartbeats 4000000
/-! FwE3: sorted(set(xs)) of texts. -/
namespace Fw
open PySem PySem.Spec PyProof.Rows L2

def keyS (e : Int × Value) : Str := match e.2 with | .str k _ => k | _ => Str.empty
def GoodS (w : World) (e : Int × Value) : Prop := ∃ k tk, e.2 = Value.str k tk ∧ e.1 = hashStr w k
/-- the set of texts at a -/
def SetS (w : World) (h : Heap) (a : Addr) (S : Str → Bool) (n : Nat) : Prop :=
  ∃ o es ep t, h.get? a = some o ∧ o.ExactSet ∧ o.data = .set es ep t ∧ (∀ e ∈ es.toList, GoodS w e) ∧ (es.toList.map keyS).Nodup ∧ (∀ k, S k = true ↔ k ∈ es.toList.map keyS) ∧
    es.size < scanBound ∧ t.fits es.size = true ∧ es.size = n ∧ Ris t.place.toList ∧ (w.params.followText "set-order" = true ∨ t.led = true)
section
variable {P : Program} {w : World} {h h' : Heap} {a : Addr} {S : Str → Bool} {n : Nat}
theorem SetS.at (R : SetS w h a S n) (k : ∀ o, h.get? a = some o → h'.get? a = some o) : SetS w h' a S n := by
  obtain ⟨o, es, ep, t, ho, r⟩ := R
  exact ⟨o, es, ep, t, k o ho, r⟩
theorem SetS.congr {S' : Str → Bool} (R : SetS w h a S n) (e : ∀ k, S' k = S k) : SetS w h a S' n := by
  have q : S' = S := funext e
  rw [q]; exact R
theorem isS (k : Str) (tk : Tok) : (strKind P w).is k (.str k tk) = true := by
  show Value.isStrOf k (.str k tk) = true
  simp [Value.isStrOf]
theorem goodS_elems {l : List (Int × Value)} (g : ∀ e ∈ l, GoodS w e) : ElemsOf (strKind P w) l := fun e he => by
  obtain ⟨k, tk, h1, h2⟩ := g e he
  exact ⟨⟨k, by rw [h1]; exact isS k tk, h2⟩, by rw [h1] <;> rfl⟩
theorem goodS_is {e : Int × Value} (g : GoodS w e) (k : Str) : (strKind P w).is k e.2 = true ↔ keyS e = k := by
  obtain ⟨k0, tk, h1, _⟩ := g
  unfold keyS
  rw [h1]
  show Value.isStrOf k (.str k0 tk) = true ↔ k0 = k
  simp [Value.isStrOf]
theorem goodS_mem {l : List (Int × Value)} (g : ∀ e ∈ l, GoodS w e) (k : Str) : k ∈ l.map keyS ↔ ∃ e ∈ l, (strKind P w).is k e.2 = true := by
  rw [List.mem_map]
  constructor
  · rintro ⟨e, he, q⟩
    exact ⟨e, he, (goodS_is (g e he) k).2 q⟩
  · rintro ⟨e, he, q⟩
    exact ⟨e, he, (goodS_is (g e he) k).1 q⟩
theorem setS_new_at {ns : List Str} (ho : h.get? a = some { cls := .type "set", dict := none, data := .set #[] 0 (.fresh 0 0 (!w.params.followText "set-order")) }) : SetS w h a (fun j => decide (j ∈ ns.take 0)) 0 :=
  ⟨_, #[], 0, _, ho, ⟨rfl, rfl, rfl⟩, rfl, (fun e he => by simp at he), (by simp), (fun k => by simp), (by decide), (by rfl), rfl, List.Pairwise.nil, by
    show _ ∨ (!w.params.followText "set-order") = true
    cases w.params.followText "set-order"
    · exact .inr rfl
    · exact .inl rfl⟩
end
section
variable {P : Program} {w : World} {A : Around} {E : Value → Shared → Prop} {s : Shared} {a : Addr} {S : Str → Bool} {n : Nat}
theorem setS_add_tail {g : Bool → Sem Unit} (hg : ∀ (b : Bool) (s₁ : Shared) (Q' : Unit → Shared → Prop), Q' () s₁ → wpAny (model P w) A (g b) Q' E s₁)
    {o : Obj} {es : Array (Int × Value)} {ep : Nat} {t : SetTable} (ho : s.heap.get? a = some o) (hex : o.ExactSet) (hd : o.data = .set es ep t)
    {es1 : Array (Int × Value)} {t2 : SetTable} {S' : Str → Bool} (g1 : ∀ e ∈ es1.toList, GoodS w e) (nd1 : (es1.toList.map keyS).Nodup) (m1 : ∀ k, S' k = true ↔ k ∈ es1.toList.map keyS)
    (hb1 : es1.size < scanBound) (hf2 : t2.fits es1.size = true) (hr : Ris t2.place.toList) (hl : w.params.followText "set-order" = true ∨ t2.led = true) {wasDummy : Bool} {R : Option Bool → Shared → Prop}
    (hR : ∀ h', Heap.SameBut a s.heap h' → SetS w h' a S' es1.size → R (some true) { s with heap := h' }) :
    wpAny (model P w) A (do
        storeSet a es1 t2
        if (!wasDummy && t2.tooFull) = true then do
            g (relayAll t2 es1 (SetTable.grown es1.size)).2.2
            storeSet a (relayAll t2 es1 (SetTable.grown es1.size)).1 (relayAll t2 es1 (SetTable.grown es1.size)).2.1
            pure (some true)
          else pure (some true)) R E s := by
  refine wpAny_bind (wpAny_storeSet_of ho hd ?_ (fits_of_scanBound hb1))
  have ho1 := store_at (es' := es1) (t' := t2) ho hd
  have sb1 := Heap.SameBut.update s.heap a (Obj.putSet es1 t2)
  split
  · have pm := relayAll_perm t2 es1 (SetTable.grown es1.size)
    have hf3 := relayAll_fits t2 es1 (SetTable.grown es1.size)
    have hr3 := relayAll_ris t2 es1 (SetTable.grown es1.size)
    have hl3 := relayAll_led t2 es1 (SetTable.grown es1.size)
    generalize relayAll t2 es1 (SetTable.grown es1.size) = Z at pm hf3 hr3 hl3 ⊢
    obtain ⟨es2, t3, gave⟩ := Z
    dsimp only at pm hf3 hr3 hl3 ⊢
    have hsz : es2.size = es1.size := by rw [← Array.length_toList, pm.length_eq, Array.length_toList]
    have hb2 : es2.size < scanBound := by rw [hsz]; exact hb1
    refine wpAny_bind (hg _ _ _ ?_)
    refine wpAny_bind (wpAny_storeSet_of ho1 rfl ?_ (fits_of_scanBound hb2))
    have ho2 := store_at (es' := es2) (t' := t3) ho1 rfl
    refine wpAny_pure (hR _ (sb1.trans (Heap.SameBut.update _ a _)) ?_)
    exact ⟨_, es2, _, t3, ho2, hex, rfl, fun e he => g1 e (pm.mem_iff.mp he), (pm.map keyS).nodup_iff.mpr nd1, fun k => (m1 k).trans (pm.map keyS).mem_iff.symm, hb2, hf3, hsz, hr3,
      hl.imp id fun z => by rw [hl3]; exact z⟩
  · exact wpAny_pure (hR _ sb1 ⟨_, es1, _, t2, ho1, hex, rfl, g1, nd1, m1, hb1, hf2, rfl, hr, hl⟩)
theorem setS_add_hashed {k : Str} {tk : Tok} {Q : Bool → Shared → Prop} (R : SetS w s.heap a S n) (room : n + 1 < scanBound)
    (hQ : ∀ h', Heap.SameBut a s.heap h' → SetS w h' a (fun j => S j || decide (j = k)) (if S k = true then n else n + 1) → Q (!S k) { s with heap := h' }) :
    wpAny (model P w) A (setAddHashed a (.str k tk) ((strKind P w).hash k)) Q E s := by
  obtain ⟨o, es, ep, t, ho, hex, hd, g, nd, hm, hb, hf, hn, hr, hl⟩ := R
  have hkey : (strKind P w).is k (.str k tk) = true := isS k tk
  have hsc : (Value.str k tk).scannable = true := rfl
  have hel : ElemsOf (strKind P w) es.toList := goodS_elems g
  unfold setAddHashed setAddHashedIn
  refine wpAny_holding (wpAny_bind (wpAny_setState_of ho hd hf ?_))
  dsimp only
  rw [byScan_of hsc hb hel]
  simp only [↓reduceIte]
  unfold setAddByScan
  refine wpAny_bind ?_
  refine wpAny_bind (wpAny_rule ?_)
  refine wpAny_bind (wpAny_setScan_of hkey ho hd hf hel ?_)
  cases hfi : List.findIdx? (fun e => (strKind P w).is k e.2) es.toList with
  | some j =>
    dsimp only
    obtain ⟨hj, pj, _⟩ := List.findIdx?_eq_some_iff_getElem.mp hfi
    have hSk : S k = true := (hm k).2 ((goodS_mem (P := P) (w := w) g k).2 ⟨es.toList[j], List.getElem_mem hj, pj⟩)
    refine wpAny_pure (wpAny_pure ?_)
    have q := hQ s.heap (Heap.SameBut.refl a s.heap) ⟨o, es, ep, t, ho, hex, hd, g, nd, fun i => by
      rw [Bool.or_eq_true, decide_eq_true_eq, ← hm i]
      exact ⟨fun z => z.elim id (fun e => by rw [e]; exact hSk), .inl⟩, hb, hf, by rw [if_pos hSk]; exact hn, hr, hl⟩
    rw [hSk] at q
    exact q
  | none =>
    dsimp only
    have hnk : k ∉ es.toList.map keyS := fun z => by
      obtain ⟨e, he, q⟩ := (goodS_mem (P := P) (w := w) g k).1 z
      have c := List.findIdx?_eq_none_iff.mp hfi e he
      rw [q] at c
      cases c
    have hSk : S k = false := by
      cases q : S k with
      | false => rfl
      | true => exact absurd ((hm k).1 q) hnk
    have hgw : ∀ (b : Bool) {s₁ : Shared} {Q' : Unit → Shared → Prop}, Q' () s₁ → wpAny (model P w) A (match b with | true => rule "set.scan.the-table-gave-way" | false => pure ()) Q' E s₁ :=
      fun b s₁ Q' q => by cases b <;> first | exact wpAny_pure q | exact wpAny_rule q
    have pm := layNew_perm t es ((strKind P w).hash k) (.str k tk)
    have hf1 := layNew_fits t es ((strKind P w).hash k) (.str k tk)
    have hr1 := layNew_ris t es ((strKind P w).hash k) (.str k tk) hr
    have hl1 := layNew_led t es ((strKind P w).hash k) (.str k tk)
    generalize layNew t es ((strKind P w).hash k) (.str k tk) = Z at pm hf1 hr1 hl1 ⊢
    obtain ⟨es1, t1, wasDummy, gave⟩ := Z
    dsimp only at pm hf1 hr1 hl1 ⊢
    rw [Array.toList_push] at pm
    have pc : es1.toList.Perm (((strKind P w).hash k, Value.str k tk) :: es.toList) := pm.trans (List.perm_append_singleton _ _)
    have pk : (es1.toList.map keyS).Perm (k :: es.toList.map keyS) := pc.map keyS
    have g1 : ∀ e ∈ es1.toList, GoodS w e := fun e he => by
      rcases List.mem_cons.mp (pc.mem_iff.mp he) with z | z
      · rw [z]; exact ⟨k, tk, rfl, rfl⟩
      · exact g e z
    have nd1 : (es1.toList.map keyS).Nodup := pk.nodup_iff.mpr (List.nodup_cons.mpr ⟨hnk, nd⟩)
    have m1 : ∀ i, (S i || decide (i = k)) = true ↔ i ∈ es1.toList.map keyS := fun i => by
      rw [Bool.or_eq_true, decide_eq_true_eq, hm i, pk.mem_iff, List.mem_cons]
      exact Or.comm
    have hsz : es1.size = n + 1 := by rw [← Array.length_toList, pc.length_eq, List.length_cons, Array.length_toList, hn]
    have hb1 : es1.size < scanBound := by rw [hsz]; exact room
    have hled : w.params.followText "set-order" = true ∨ t1.led = true := hl.imp id fun z => by rw [hl1]; exact z
    have fin : ∀ h', Heap.SameBut a s.heap h' → SetS w h' a (fun j => S j || decide (j = k)) es1.size → Q true { s with heap := h' } := fun h' sb r => by
      have q := hQ h' sb
      rw [hSk] at q
      rw [hsz] at r
      exact q r
    refine wpAny_bind (hgw _ ?_)
    split
    · refine wpAny_bind ?_
      rw [hashByValue_scannable 8 hsc]
      refine wpAny_pure ?_
      refine setS_add_tail ?_ ho hex hd g1 nd1 m1 hb1 ?_ ?_ ?_ ?_
      · intro b s₁ Q' q; cases b <;> first | exact wpAny_pure q | exact wpAny_rule q
      · first | (split <;> first | exact hf1 | exact SetTable.fits_plain_off hf1) | exact hf1
      · first | (split <;> exact hr1) | exact hr1
      · first | (split <;> exact hled) | exact hled
      · intro h' sb r; dsimp only; exact wpAny_pure (fin h' sb r)
    · refine wpAny_bind (wpAny_pure ?_)
      simp only [↓reduceIte]
      refine setS_add_tail ?_ ho hex hd g1 nd1 m1 hb1 hf1 hr1 hled ?_
      · intro b s₁ Q' q; cases b <;> first | exact wpAny_pure q | exact wpAny_rule q
      · intro h' sb r; dsimp only; exact wpAny_pure (fin h' sb r)
theorem set_update_strs {I : Addr} {fp wr : List Addr} {G : Array GenState → Array GenState → Prop} {n : Nat} {Pv : Nat → Value → Prop} {St : Nat → Shared → Prop} {R : Result → Shared → Prop}
    (W : WalksS P w A.in1 I fp wr G n Pv St) (S : Addr) (hSf : S ∉ fp) (ns : List Str) (hn : n = ns.length) (hb : ns.length + 1 < scanBound) (hval : ∀ i v, Pv i v → ∃ k t, ns[i]? = some k ∧ v = .str k t) :
    ∀ (k i : Nat) (s : Shared), n - i = k → i ≤ n → St i s → (∃ c, c ≤ i ∧ SetS w s.heap S (fun j => decide (j ∈ ns.take i)) c) →
      (∀ s' c, Moved (S :: wr) G s s' → c ≤ n → SetS w s'.heap S (fun j => decide (j ∈ ns)) c → R (.ok (.ret .none)) s') →
      codeAny (model P w) A (.builtin "set.update.loop" ⟨[.ref S, .ref I], []⟩) R s := by
  have hSw : S ∉ wr := fun h => hSf (W.sub _ h)
  have hsub : ∀ b ∈ wr, b ∈ S :: wr := fun b hb => List.mem_cons_of_mem _ hb
  intro k
  induction k with
  | zero =>
    intro i s hk' hi hst ⟨c, hc, hS⟩ hR
    have hin : i = n := by omega
    subst hin
    refine codeAny_builtin F.entry_set_update_loop ?_
    rw [Around.under_plainId F.plain_set_update_loop _]
    show wpAny _ A.in1 (pyNext (.ref I) >>= _) _ _ s
    refine wpAny_bind (W.done s _ _ hst fun s' hm => ?_)
    show wpAny _ A.in1 (ret Value.none) _ _ s'
    have e : ns.take i = ns := List.take_of_length_le (by omega)
    rw [e] at hS
    exact wpAny_pure (hR s' c (hm.mono hsub) hc (hS.at fun o e => hm.heap S o hSw e))
  | succ k ih =>
    intro i s hk' hi hst ⟨c, hc, hS⟩ hR
    have hlt : i < n := by omega
    refine codeAny_builtin F.entry_set_update_loop ?_
    rw [Around.under_plainId F.plain_set_update_loop _]
    show wpAny _ A.in1 (pyNext (.ref I) >>= _) _ _ s
    refine wpAny_bind (W.item i s _ _ hlt hst fun v s' hP hst' hm => ?_)
    obtain ⟨z, t, hz, rfl⟩ := hval i v hP
    have hS' : SetS w s'.heap S (fun j => decide (j ∈ ns.take i)) c := hS.at fun o e => hm.heap S o hSw e
    show wpAny _ A.in1 (holding [Value.str z t] (setAdd S (.str z t)) >>= _) _ _ s'
    refine wpAny_bind (wpAny_holding ?_)
    unfold setAdd
    refine wpAny_holding ?_
    refine wpAny_bind ((strKind P w).pyHash (k := z) (isS _ _) ?_)
    refine setS_add_hashed (s := { s' with toks := s'.toks + 1 }) hS' (by omega) fun h' hsb hS2 => ?_
    have hS3 : SetS w h' S (fun j => decide (j ∈ ns.take (i + 1))) (if decide (z ∈ ns.take i) = true then c else c + 1) := hS2.congr fun j => by
      rw [List.take_add_one, hz]
      simp [List.mem_append]
    have hc3 : (if decide (z ∈ ns.take i) = true then c else c + 1) ≤ i + 1 := by
      split <;> omega
    refine wpAny_pure ⟨plainId_quiet F.plain_set_update_loop _, ih (i + 1) _ (by omega) hlt (W.frame _ s' _ _ hst' (Nat.le_succ _) fun b hb o e => ?_) ⟨_, hc3, hS3⟩ fun s'' c2 hm'' hc'' hS'' => ?_⟩
    · rw [hsb.2 b (fun h : b = S => hSf (by rw [← h]; exact hb))]; exact e
    · refine hR s'' c2 (Moved.trans W.gtrans ((hm.mono hsub).then_heap (Nat.le_succ _) fun b o hb e => ?_) hm'') hc'' hS''
      rw [hsb.2 b (fun h : b = S => hb (by rw [h]; exact List.mem_cons_self))]; exact e
theorem str_at' {us : List Value} {ns : List Str} (hit : StrsAre us ns) {i : Nat} {v : Value} (hv : us[i]? = some v) : ∃ k t, ns[i]? = some k ∧ v = .str k t := by
  induction hit generalizing i with
  | nil => simp at hv
  | cons k t _ ih =>
    cases i with
    | zero => simp at hv; exact ⟨k, t, rfl, hv.symm⟩
    | succ i => exact ih (by simpa using hv)
theorem strs_length {us : List Value} {ns : List Str} (hit : StrsAre us ns) : us.length = ns.length := by
  induction hit with
  | nil => rfl
  | cons k t _ ih => simp [ih]
end
end Fw
end
-- FwE4
section
set_option Elab.async false
set_option linter.all false
set_option maxRecDepth 100000
set_option maxHeartbeats 4000000
/-! FwE4: set(xs) of texts, and sorted of it. -/
namespace Fw
open PySem PySem.Spec PyProof.Rows L2
def emptyS (w : World) : Obj := { cls := .type "set", dict := none, data := .set #[] 0 (.fresh 0 0 (!w.params.followText "set-order")) }
section
variable {P : Program} {w : World} {A : Around} {E : Value → Shared → Prop} {s : Shared}
set_option maxHeartbeats 6400000 in
theorem call_set_strsL {l : Addr} {items : Array Value} (ns : List Str) {Q : Value → Shared → Prop} (hh : A.handled = none) (hl : s.heap.IsList l items) (hit : StrsAre items.toList ns) (hb : ns.length + 1 < scanBound)
    (h : ∀ (h' : Heap) (tk c : Nat), SetS w h' s.heap.objs.size (fun j => decide (j ∈ ns)) c → c ≤ ns.length → (∀ b o, s.heap.get? b = some o → h'.get? b = some o) → Q (.ref s.heap.objs.size) { s with heap := h', toks := tk }) :
    wpAny (model P w) A (call (.type "set") [.ref l]) Q E s := by
  have hisz : items.size = ns.length := by
    have q := strs_length hit
    rw [Array.length_toList] at q
    exact q
  obtain ⟨c, tl, hmro⟩ := F.called_set.mro
  have hmade := F.called_set.made
  have hsub := F.called_set.sub
  refine wpAny_call (codeAny_of_tree ?_)
  show wpAny _ _ (callAny (.type "set") _) _ _ _
  refine wpAny_pure ⟨Code.quiet_builtin _ (by decide +kernel), codeAny_builtin F.entry_type_call ?_⟩
  rw [Around.under_plain (weight_type_call_type "set" [.ref l] []) rfl]
  have h1 := F.called_set.notType
  have h2 := F.called_set.canCreate
  have hct := F.typeCall_set_1 (.ref l)
  repeat (any_goals (first | assumption | wp_step))
  refine codeAny_mono (code_set_led1 (.ref l) (E := E) (Q₁ := fun obj s₁ => obj = .ref s.heap.objs.size ∧ s₁ = { s with heap := s.heap.push (emptyS w) }) ⟨rfl, rfl⟩) fun r s₁ hr => ?_
  cases r with
  | error e => exact hr
  | ok fl =>
    cases fl with
    | ret obj =>
      obtain ⟨rfl, rfl⟩ := hr
      have hS : (s.heap.push (emptyS w)).get? s.heap.objs.size = some (emptyS w) := Heap.get?_push_size _ rfl
      have hT : Shared.TypeIs { s with heap := s.heap.push (emptyS w) } (.ref s.heap.objs.size) "set" := ⟨_, hS, rfl⟩
      have hli := F.called_set.init.lookup
      have hbi := F.called_set.init.bind (.ref s.heap.objs.size)
      repeat (any_goals (first | assumption | wp_step))
      refine codeAny_mono (codeAny_call_builtin (R := wants (fun r s₂ => r = .none ∧ ∃ h' tk c, s₂ = { s with heap := h', toks := tk } ∧ SetS w h' s.heap.objs.size (fun j => decide (j ∈ ns)) c ∧ c ≤ ns.length ∧
          (∀ b o, s.heap.get? b = some o → h'.get? b = some o)) E) F.called_set.init.plain F.entry_set_init (check_set_init_1 hT ?_)) fun r₂ s₂ hr₂ => ?_
      · obtain ⟨ol, hol, hcl, nl, hdl⟩ := hl
        obtain ⟨ocls, odict, odata, oslots⟩ := ol
        simp only at hcl hdl
        subst hcl; subst hdl
        have hol' : (s.heap.push (emptyS w)).get? l = some { cls := .type "list", dict := odict, data := .seq items nl, slots := oslots } := Heap.get?_push_of_some _ hol
        have hsls := F.sub_list_set
        have hslf := F.sub_list_frozenset
        have hne : (Value.type "list" == Value.type "dict") = false := by decide
        have hl1 : (s.heap.push (emptyS w)).IsList l items := ⟨_, hol', rfl, nl, rfl⟩
        unfold Builtin.«set.__init__» noKeywords Builtin.Frozenset.updateFrom
        generalize hPI : pyIter = PI
        wp_walk
        subst hPI
        refine wpAny_pyIter_list hl1 ?_
        refine wpAny_bind (wpAny_runValue ?_)
        have hlS : l < s.heap.objs.size := Heap.lt_size hol
        have hh3 : A.in1.in1.in1.handled = none := by simp [hh]
        have hz1 : (s.heap.push (emptyS w)).objs.size = s.heap.objs.size + 1 := Heap.size_push ..
        have hneI : l ≠ (s.heap.push (emptyS w)).objs.size := by
          rw [Heap.size_push]; exact Nat.ne_of_lt (Nat.lt_succ_of_lt hlS)
        have hSf : s.heap.objs.size ∉ [(s.heap.push (emptyS w)).objs.size, l] := by
          rw [Heap.size_push]; simp only [List.mem_cons, List.mem_singleton, List.not_mem_nil, or_false, not_or]
          exact ⟨Nat.ne_of_lt (Nat.lt_succ_self _), Nat.ne_of_gt hlS⟩
        have hval : ∀ (i : Nat) (v : Value), items[i]? = some v → ∃ k t, ns[i]? = some k ∧ v = .str k t := fun i v hv => str_at' hit (by rw [Array.getElem?_toList]; exact hv)
        refine set_update_strs ((Walks.list hh3 _ l hneI items).toS) s.heap.objs.size
          hSf ns hisz hb hval (items.size - 0) 0 _ (by omega) (Nat.zero_le _)
          ⟨⟨_, Heap.get?_push_size _ rfl, rfl, rfl⟩, (hl1.push _)⟩ ?hS0 ?hR
        case hS0 =>
          have hget : ((s.heap.push (emptyS w)).push { cls := .type "list_iterator", data := .fields #[.ref l, .int 0 0] }).get? s.heap.objs.size
              = some (emptyS w) := Heap.get?_push_of_some _ hS
          exact ⟨0, Nat.le_refl 0, setS_new_at hget⟩
        case hR =>
          intro s' c' hm hc' hS'
          obtain ⟨h', g2, d', tk', os'⟩ := s'
          have eg : g2 = s.gens := hm.gens
          have ed : d' = s.drawn := hm.drawn
          have eo : os' = s.os := hm.os
          subst eg; subst ed; subst eo
          show wpAny _ _ _ _ _ _
          refine wpAny_pure ?_
          show wpAny _ _ (ret Value.none) _ _ _
          rw [hisz] at hc'
          refine wpAny_pure ⟨rfl, h', tk', c', rfl, hS', hc', fun b o e => ?_⟩
          have hb0 : b < s.heap.objs.size := Heap.lt_size e
          have hb1 : b ≠ s.heap.objs.size := Nat.ne_of_lt hb0
          have hb2 : b ≠ (s.heap.push (emptyS w)).objs.size := by
            rw [Heap.size_push]; exact Nat.ne_of_lt (Nat.lt_succ_of_lt hb0)
          exact hm.heap b o (by simp only [List.mem_cons, List.mem_singleton, List.not_mem_nil, or_false, not_or]; exact ⟨hb1, hb2⟩) (Heap.get?_push_of_some _ (Heap.get?_push_of_some _ e))
      · cases r₂ with
        | error e => exact hr₂
        | ok fl₂ =>
          cases fl₂ with
          | ret r =>
            obtain ⟨rfl, h', tk, c', rfl, hS', hc', hk'⟩ := hr₂
            repeat (any_goals (first | assumption | wp_step))
            exact h _ _ _ hS' hc' hk'
          | _ => exact hr₂.elim
    | _ => exact hr.elim
set_option maxHeartbeats 6400000 in
theorem call_set_strsT {l : Addr} {items : Array Value} (ns : List Str) {Q : Value → Shared → Prop} (hh : A.handled = none) (hl : s.heap.IsTuple l items) (hit : StrsAre items.toList ns) (hb : ns.length + 1 < scanBound)
    (h : ∀ (h' : Heap) (tk c : Nat), SetS w h' s.heap.objs.size (fun j => decide (j ∈ ns)) c → c ≤ ns.length → (∀ b o, s.heap.get? b = some o → h'.get? b = some o) → Q (.ref s.heap.objs.size) { s with heap := h', toks := tk }) :
    wpAny (model P w) A (call (.type "set") [.ref l]) Q E s := by
  have hisz : items.size = ns.length := by
    have q := strs_length hit
    rw [Array.length_toList] at q
    exact q
  obtain ⟨c, tl, hmro⟩ := F.called_set.mro
  have hmade := F.called_set.made
  have hsub := F.called_set.sub
  refine wpAny_call (codeAny_of_tree ?_)
  show wpAny _ _ (callAny (.type "set") _) _ _ _
  refine wpAny_pure ⟨Code.quiet_builtin _ (by decide +kernel), codeAny_builtin F.entry_type_call ?_⟩
  rw [Around.under_plain (weight_type_call_type "set" [.ref l] []) rfl]
  have h1 := F.called_set.notType
  have h2 := F.called_set.canCreate
  have hct := F.typeCall_set_1 (.ref l)
  repeat (any_goals (first | assumption | wp_step))
  refine codeAny_mono (code_set_led1 (.ref l) (E := E) (Q₁ := fun obj s₁ => obj = .ref s.heap.objs.size ∧ s₁ = { s with heap := s.heap.push (emptyS w) }) ⟨rfl, rfl⟩) fun r s₁ hr => ?_
  cases r with
  | error e => exact hr
  | ok fl =>
    cases fl with
    | ret obj =>
      obtain ⟨rfl, rfl⟩ := hr
      have hS : (s.heap.push (emptyS w)).get? s.heap.objs.size = some (emptyS w) := Heap.get?_push_size _ rfl
      have hT : Shared.TypeIs { s with heap := s.heap.push (emptyS w) } (.ref s.heap.objs.size) "set" := ⟨_, hS, rfl⟩
      have hli := F.called_set.init.lookup
      have hbi := F.called_set.init.bind (.ref s.heap.objs.size)
      repeat (any_goals (first | assumption | wp_step))
      refine codeAny_mono (codeAny_call_builtin (R := wants (fun r s₂ => r = .none ∧ ∃ h' tk c, s₂ = { s with heap := h', toks := tk } ∧ SetS w h' s.heap.objs.size (fun j => decide (j ∈ ns)) c ∧ c ≤ ns.length ∧
          (∀ b o, s.heap.get? b = some o → h'.get? b = some o)) E) F.called_set.init.plain F.entry_set_init (check_set_init_1 hT ?_)) fun r₂ s₂ hr₂ => ?_
      · obtain ⟨ol, hol, hcl, nl, hdl⟩ := hl
        obtain ⟨ocls, odict, odata, oslots⟩ := ol
        simp only at hcl hdl
        subst hcl; subst hdl
        have hol' : (s.heap.push (emptyS w)).get? l = some { cls := .type "tuple", dict := odict, data := .seq items nl, slots := oslots } := Heap.get?_push_of_some _ hol
        have hsls := F.sub_tuple_set
        have hslf := F.sub_tuple_frozenset
        have hne : (Value.type "tuple" == Value.type "dict") = false := by decide
        have hl1 : (s.heap.push (emptyS w)).IsTuple l items := ⟨_, hol', rfl, nl, rfl⟩
        unfold Builtin.«set.__init__» noKeywords Builtin.Frozenset.updateFrom
        generalize hPI : pyIter = PI
        wp_walk
        subst hPI
        refine wpAny_pyIter_tuple hl1 ?_
        refine wpAny_bind (wpAny_runValue ?_)
        have hlS : l < s.heap.objs.size := Heap.lt_size hol
        have hh3 : A.in1.in1.in1.handled = none := by simp [hh]
        have hz1 : (s.heap.push (emptyS w)).objs.size = s.heap.objs.size + 1 := Heap.size_push ..
        have hneI : l ≠ (s.heap.push (emptyS w)).objs.size := by
          rw [Heap.size_push]; exact Nat.ne_of_lt (Nat.lt_succ_of_lt hlS)
        have hSf : s.heap.objs.size ∉ [(s.heap.push (emptyS w)).objs.size, l] := by
          rw [Heap.size_push]; simp only [List.mem_cons, List.mem_singleton, List.not_mem_nil, or_false, not_or]
          exact ⟨Nat.ne_of_lt (Nat.lt_succ_self _), Nat.ne_of_gt hlS⟩
        have hval : ∀ (i : Nat) (v : Value), items[i]? = some v → ∃ k t, ns[i]? = some k ∧ v = .str k t := fun i v hv => str_at' hit (by rw [Array.getElem?_toList]; exact hv)
        refine set_update_strs ((Walks.tuple hh3 _ l hneI items).toS) s.heap.objs.size
          hSf ns hisz hb hval (items.size - 0) 0 _ (by omega) (Nat.zero_le _)
          ⟨⟨_, Heap.get?_push_size _ rfl, rfl, rfl⟩, (hl1.push _)⟩ ?hS0 ?hR
        case hS0 =>
          have hget : ((s.heap.push (emptyS w)).push { cls := .type "tuple_iterator", data := .fields #[.ref l, .int 0 0] }).get? s.heap.objs.size
              = some (emptyS w) := Heap.get?_push_of_some _ hS
          exact ⟨0, Nat.le_refl 0, setS_new_at hget⟩
        case hR =>
          intro s' c' hm hc' hS'
          obtain ⟨h', g2, d', tk', os'⟩ := s'
          have eg : g2 = s.gens := hm.gens
          have ed : d' = s.drawn := hm.drawn
          have eo : os' = s.os := hm.os
          subst eg; subst ed; subst eo
          show wpAny _ _ _ _ _ _
          refine wpAny_pure ?_
          show wpAny _ _ (ret Value.none) _ _ _
          rw [hisz] at hc'
          refine wpAny_pure ⟨rfl, h', tk', c', rfl, hS', hc', fun b o e => ?_⟩
          have hb0 : b < s.heap.objs.size := Heap.lt_size e
          have hb1 : b ≠ s.heap.objs.size := Nat.ne_of_lt hb0
          have hb2 : b ≠ (s.heap.push (emptyS w)).objs.size := by
            rw [Heap.size_push]; exact Nat.ne_of_lt (Nat.lt_succ_of_lt hb0)
          exact hm.heap b o (by simp only [List.mem_cons, List.mem_singleton, List.not_mem_nil, or_false, not_or]; exact ⟨hb1, hb2⟩) (Heap.get?_push_of_some _ (Heap.get?_push_of_some _ e))
      · cases r₂ with
        | error e => exact hr₂
        | ok fl₂ =>
          cases fl₂ with
          | ret r =>
            obtain ⟨rfl, h', tk, c', rfl, hS', hc', hk'⟩ := hr₂
            repeat (any_goals (first | assumption | wp_step))
            exact h _ _ _ hS' hc' hk'
          | _ => exact hr₂.elim
    | _ => exact hr.elim

theorem strsAll (vs : List Value) (h : ∀ v ∈ vs, ∃ k tk, v = Value.str k tk) : StrsAre vs (vs.map fun v => keyS (0, v)) := by
  induction vs with
  | nil => exact .nil
  | cons v vs ih =>
    obtain ⟨k, tk, e⟩ := h v List.mem_cons_self
    rw [e, List.map_cons]
    exact .cons k tk (ih fun u hu => h u (List.mem_cons_of_mem _ hu))
theorem sorted_setS {a : Addr} {S : Str → Bool} {n : Nat} {Q : Value → Shared → Prop} (R : SetS w s.heap a S n) (hh : A.handled = none) (h64 : n < 64)
    (hQ : ∀ s' p (out : Array Value) (c : Nat) (ns : List Str), (∀ b o, s.heap.get? b = some o → s'.heap.get? b = some o) → s'.gens = s.gens → s'.os = s.os → s.heap.objs.size ≤ p →
      s'.heap.get? p = some (seqObj "list" out c) → StrsAre out.toList ns → sortedS ns = true → ns.Nodup → (∀ k, k ∈ ns ↔ S k = true) → ns.length = n → Q (.ref p) s') :
    wpAny (model P w) A (call (.builtin "sorted") [.ref a]) Q E s := by
  obtain ⟨o, es, ep, t, ho, hex, hd, g, nd, hm, hb, hf, hn, hr, hl⟩ := R
  refine Calls.call_function_entry kind_sorted plain_sorted entry_sorted (args_sorted1 _) ?_
  unfold Builtin.«sorted»
  refine wpAny_bind (m := checkCount "sorted" 1 1 _) (wpAny_pure ?_)
  refine wpAny_bind (collect_set (A := A.in1) hh ⟨o, ho, hex.1, hd⟩ hf hb hr hl fun s1 vs k1 hz g1 o1 pm => ?_)
  have hvl : vs.length = n := by rw [pm.length_eq, List.length_map, Array.length_toList]; exact hn
  have hS : StrsAre vs (vs.map fun v => keyS (0, v)) := strsAll vs fun v hv => by
    obtain ⟨e, he, q⟩ := List.mem_map.mp (pm.mem_iff.mp hv)
    obtain ⟨k, tk, h1, _⟩ := g e he
    exact ⟨k, tk, by rw [← q]; exact h1⟩
  have pk : (vs.map fun v => keyS (0, v)).Perm (es.toList.map keyS) := by
    have q := pm.map fun v => keyS (0, v)
    rw [List.map_map] at q
    exact q
  refine wpAny_bind (wpAny_newList ?_ (by rw [hvl, sizeLine_eq]; omega))
  have hoL : (s1.heap.push (seqObj "list" vs.toArray 0)).get? s1.heap.objs.size = some (seqObj "list" vs.toArray 0) := Heap.get?_push_size _ rfl
  refine wpAny_bind (wpAny_holding (wpAny_call_entry PyProof.Rows.slot_list_sort ⟨_, hoL, rfl⟩ PyProof.Rows.entry_list_sort
    (list_sort_treeK strKind_oneLt (s := { s1 with heap := s1.heap.push (seqObj "list" vs.toArray 0) }) hoL hS.keysOf (fun v₁ v₂ rest e => keyKind_strs (by rw [← e]; exact hS)) (by rw [hvl]; exact h64) fun st' hp hs => ⟨_, rfl, ?_⟩)
    (PyProof.Rows.args_list_sort _)))
  obtain ⟨ys, a1, a2, a3⟩ := sorted_out_str hS hp hs
  obtain ⟨c, hc⟩ := PyProof.Rows.sortedHeap_at (vs := vs) (out := (arrOf st').map (·.2)) hoL
  have pn : ys.Perm (es.toList.map keyS) := a2.trans pk
  refine wpAny_pure ⟨_, rfl, hQ _ s1.heap.objs.size ((arrOf st').map (·.2)) c ys (fun b u e => ?_) g1 o1 hz hc a1 a3 (pn.nodup_iff.mpr nd) (fun k => by rw [pn.mem_iff, ← hm k]) ?_⟩
  · have q := k1 b u e
    have hlt := Heap.lt_size q
    show (sortedHeap (s1.heap.push (seqObj "list" vs.toArray 0)) s1.heap.objs.size vs _).get? b = some u
    rw [sortedHeap_old (Nat.ne_of_lt hlt) (by rw [size_push']; exact Nat.lt_succ_of_lt hlt)]
    exact Heap.get?_push_of_some _ q
  · rw [pn.length_eq, List.length_map, Array.length_toList]; exact hn
end
def SetSO (w : World) (a : Addr) (S : Str → Bool) (n : Nat) : HO := .ext fun h => SetS w h a S n
section
variable {X : Cx}
theorem setSO_new {w : World} {P : Program} {H : Hp} {h : Heap} {a : Addr} {S : Str → Bool} {n : Nat} (R : SetS w h a S n) : ObjOk P w H h a (SetSO w a S n) := by
  have ⟨o, _, _, _, ho, _⟩ := R
  exact ⟨R, ⟨o, ho⟩, fun h1 h2 p k => SetS.at p k⟩
theorem setSO_get {pins : List (Addr × Obj)} {σ : L2.St} {H : Hp} {s : Shared} {a : Addr} {S : Str → Bool} {n : Nat} (I : Inv X pins σ H s) (ha : H a = some (SetSO X.w a S n)) : SetS X.w s.heap a S n := (I.hok a _ ha).1
def rSetS (X : Cx) : List V → Hp → VK → Prop := fun xs H Q => ∃ (a : Addr) (zs : List Str), xs = [.ref a] ∧ (SqL X.K H a (zs.map V.str) ∨ SqT X.K H a (zs.map V.str)) ∧ zs.length + 1 < scanBound ∧
  ∀ (p : Addr) (n : Nat), H p = none → n ≤ zs.length → Q (.ref p) (upd H p (SetSO X.w p (fun j => decide (j ∈ zs)) n))
theorem cr_setS (hc : X.calm = true) : CallR X (.type "set") (rSetS X) := by
  intro pins s σ H xs us Q I r h
  obtain ⟨a, zs, rfl, hs, hb, q⟩ := h
  rw [Vals.ref1 r]
  have fin : ∀ (h' : Heap) (tk c : Nat), SetS X.w h' s.heap.objs.size (fun j => decide (j ∈ zs)) c → c ≤ zs.length → (∀ b o, s.heap.get? b = some o → h'.get? b = some o) →
      ∃ v H', Inv X pins σ H' { s with heap := h', toks := tk } ∧ RelV v (.ref s.heap.objs.size) ∧ Q v H' := fun h' tk c hS hc' hk =>
    ⟨.ref s.heap.objs.size, upd H s.heap.objs.size (SetSO X.w s.heap.objs.size (fun j => decide (j ∈ zs)) c), I.laid (t' := tk) hk (Nat.le_refl _) (setSO_new hS), rfl, q _ c (I.hok.fresh (Nat.le_refl _)) hc'⟩
  rcases hs with hs | hs
  · obtain ⟨its, rv, hl, _⟩ := I.list hs
    exact call_set_strsL zs (I.ok.hd hc) hl.isList rv.strs hb fin
  · obtain ⟨its, rv, hl, _⟩ := I.tuple hs
    exact call_set_strsT zs (I.ok.hd hc) hl rv.strs hb fin
def rSortedSetS (w : World) : List V → Hp → VK → Prop := fun vs H Q => ∃ (a : Addr) (S : Str → Bool) (n : Nat), vs = [V.ref a] ∧ H a = some (SetSO w a S n) ∧ n < 64 ∧
  ∀ (ns : List Str) (p : Addr), sortedS ns = true → ns.Nodup → (∀ k : Str, k ∈ ns ↔ S k = true) → ns.length = n → H p = none → Q (.ref p) (upd H p (.lst (ns.map V.str)))
theorem cr_sortedSetS (hc : X.calm = true) : CallR X (.builtin "sorted") (rSortedSetS X.w) := by
  intro pins s σ H vs us Q I r h
  obtain ⟨a, S, n, rfl, ha, h64, q⟩ := h
  have R := setSO_get I ha
  rw [Vals.ref1 r]
  refine sorted_setS R (I.ok.hd hc) h64 fun s' p out c ns k g o hp hg hi hs hnd hm hl => ?_
  have hlen : (ns.map V.str).length ≤ sizeLine := by rw [List.length_map, hl, sizeLine_eq]; omega
  have hn : H p = none := I.hok.fresh hp
  have J : Inv X pins σ (upd H p (.lst (ns.map V.str))) { s with heap := s'.heap, gens := s'.gens, drawn := s'.drawn, toks := s'.toks } :=
    I.call (ch := []) (Un.laid k hp hn) (I.hok.laid k hp ⟨hlen, out.toList, c, vals_of_strs hi, hg⟩) (by rw [g]; exact I.bare) (fun _ z => nomatch z)
  have e : s' = { s with heap := s'.heap, gens := s'.gens, drawn := s'.drawn, toks := s'.toks } := by
    cases s'
    cases s
    cases o
    rfl
  rw [e]
  exact ⟨.ref p, _, J, rfl, q ns p hs hnd hm hl hn⟩
end
end Fw
end
-- FwE5
section
set_option Elab.async false
set_option linter.all false
set_option maxRecDepth 100000
set_option maxHeartbeats 4000000
/-! FwE5: sorted(set(e)), an expression. -/
namespace Fw
open PySem PySem.Spec PyProof.Rows L2 RZ
theorem mem_dedS {x : Str} : ∀ {l : List Str}, x ∈ dedS l ↔ x ∈ l
  | [] => Iff.rfl
  | i :: r => by
    unfold dedS
    by_cases h : i ∈ r
    · rw [if_pos h, mem_dedS, List.mem_cons]
      exact ⟨.inr, fun q => q.elim (fun e => by rw [e]; exact h) id⟩
    · rw [if_neg h, List.mem_cons, List.mem_cons, mem_dedS]
theorem nodup_dedS : ∀ {l : List Str}, (dedS l).Nodup
  | [] => .nil
  | i :: r => by
    unfold dedS
    by_cases h : i ∈ r
    · rw [if_pos h]; exact nodup_dedS
    · rw [if_neg h, List.nodup_cons, mem_dedS]
      exact ⟨h, nodup_dedS⟩
section
variable {X : Cx} {Γ : Ctx} {Φ : Nat → List Dat → M Dat} {k : Nat}
theorem s_sset {a : IE} {z : Expr} {p p2 q2 pos : Pos} (C : CtxOk X Γ Φ k) (hg1 : glB Γ ("sorted" : Str) = true) (hg2 : glB Γ ("set" : Str) = true) (hs : isStar z = false) (ha : PE X z (rdg X.K a (den Φ a))) :
    PE X (.Call (.Name "sorted" p) [.Call (.Name "set" p2) [z] [] q2] [] pos) (rd X.K (RepS X.K) (den Φ (.sset a))) := by
  obtain ⟨g1, g2⟩ := C.gl_ hg1
  obtain ⟨g3, g4⟩ := C.gl_ hg2
  refine PE.imp (pe_callB (cr_sortedSetS C.calm) g1 (C.blt _ (by decide)) (by rfl) (pa_cons (pe_callTy (cr_setS C.calm) g3 (C.blt _ (by decide)) (by rfl) (pa_cons (rdg_toW ha) pa_nil (star1 hs _ _)) (by decide) g4 (star1 hs _ _) rfl) pa_nil rfl) (by decide) g2 rfl rfl) fun σ H Q ⟨N, μ, st, ρ, w, er, p⟩ => ?_
  refine rd_bind w er p fun d s v H1 μ1 ef w1 er1 r1 p1 => ?_
  obtain ⟨d', e, q⟩ := post_mr p1
  cases hq : seqOf s d with
  | none => rw [hq] at e; cases e
  | some ds =>
    rw [hq] at e
    have e' : (match strsOf ds with
      | some zs => if zs.length < 64 then some (Dat.lst ((sortS (dedS zs)).map Dat.str)) else none
      | none => none) = some d' := e
    cases hz : strsOf ds with
    | none => rw [hz] at e'; cases e'
    | some zs =>
      rw [hz] at e'
      have e2 : (if zs.length < 64 then some (Dat.lst ((sortS (dedS zs)).map Dat.str)) else none) = some d' := e'
      by_cases hl : zs.length < 64
      · rw [if_pos hl] at e2
        cases e2
        obtain ⟨b, vs, rfl, hs', hr⟩ := seq_of w1 r1 hq
        obtain ⟨rfl, rfl⟩ := strs_of hr hz
        refine ⟨b, zs, rfl, hs', by unfold scanBound; omega, fun p n hp hn => ?_⟩
        have w2 := w1.new (o := SetSO X.w p (fun j => decide (j ∈ zs)) n) hp
        have ef2 : Eff H1 μ1 (upd H1 p (SetSO X.w p (fun j => decide (j ∈ zs)) n)) μ1 := eff_new hp
        refine ⟨p, _, n, rfl, upd_same, Nat.lt_of_le_of_lt hn hl, fun ns p' h1 h2 h3 h4 hp' => ?_⟩
        have pm : ns.Perm (dedS zs) := (List.perm_ext_iff_of_nodup h2 nodup_dedS).mpr fun k => by rw [h3 k, decide_eq_true_eq, mem_dedS]
        have es : ns = sortS (dedS zs) := sortS_of pm (sortedS_pair h1)
        rw [es]
        refine q _ _ μ1 ((ef.trans ef2).trans (eff_new hp')) (w2.new hp') ?_
        refine rep_newL w2 hp' ?_
        exact reps_strs _
      · rw [if_neg hl] at e2
        cases e2
end
end Fw
end
-- Fw11
section
set_option Elab.async false
set_option linter.all false
set_option maxRecDepth 100000
set_option maxHeartbeats 4000000
/-! Fw11: every checked expression is what its datum says. -/
namespace Fw
open PySem PySem.Spec PyProof.Rows L2 RZ
structure SE (X : Cx) (Φ : Nat → List Dat → M Dat) (ir : IE) (e : Expr) : Prop where
  pe : PE X e (rdg X.K ir (den Φ ir))
  pt : PT X e (rdt X.K (asT (den Φ ir)))
structure SL (X : Cx) (Φ : Nat → List Dat → M Dat) (irs : IEs) (es : List Expr) : Prop where
  s : PA X es (rdA X.K (RepS X.K) (denA Φ irs))
  w : PA X es (rdA X.K (RepW X.K) (denW Φ irs))
  ns : noStars es
  nil : es = [] → irs = .nil
  nil' : irs = .nil → es = []
  bv : ∀ o pos, es ≠ [] → PE X (.BoolOp o es pos) (rd X.K (RepS X.K) (denB Φ o irs))
  bt : ∀ o pos, es ≠ [] → PW X (.BoolOp o es pos) (rdt X.K (asT (denB Φ o irs)))
  cs : PTs X es (rdt X.K (denC Φ irs))
theorem PTs.imp {X : Cx} {e : List Expr} {t t' : TT} (h : PTs X e t) (hi : ∀ σ H Q, t' σ H Q → t σ H Q) : PTs X e t' := ⟨fun pins s σ H Q I q => h.run pins s σ H Q I (hi σ H Q q)⟩
section
variable {X : Cx} {Γ : Ctx} {Φ : Nat → List Dat → M Dat} {k : Nat}
theorem se_val {ir : IE} {e : Expr} (h : PE X e (rdg X.K ir (den Φ ir))) (he : ∀ whole, isTrue e X.env whole = (do let v ← whole; standAt e.pos; holding [v] (truthy v))) : SE X Φ ir e := ⟨h, t_val h he⟩
theorem rdgS {ir : IE} {e : Expr} (h : PE X e (rd X.K (RepS X.K) (den Φ ir))) : PE X e (rdg X.K ir (den Φ ir)) := rdg_ofS h
theorem pt_ife {c a b : Expr} {tc ta tb : TT} {pos : Pos} (hc : PT X c tc) (ha : PT X a ta) (hb : PT X b tb) : PT X (.IfExp c a b pos) (fun σ H Q => tc σ H fun k H1 => if k = true then ta σ H1 Q else tb σ H1 Q) := by
  refine ⟨fun pins s σ H Q I h => ?_⟩
  refine isTrue_IfExp (thn (hc.run pins s σ H _ I h) fun d s1 ⟨H1, I1, q1⟩ => ?_)
  cases d with
  | true => exact ha.run pins s1 σ H1 Q I1 q1
  | false => exact hb.run pins s1 σ H1 Q I1 q1
theorem sd_asT {a : IE} {ρ : Env} {st : Store} {p : Bool → Store → Prop} (h : post (mbind (sd a ρ (den Φ a ρ)) (fun x => mo (asBl x)) st) p) : post (asT (den Φ a) ρ st) p := by
  unfold asT
  unfold mbind sd at h
  unfold mbind
  by_cases q : isOwn a ρ = true
  · rw [if_pos q] at h
    exact h.elim
  · rw [if_neg q] at h
    exact h
theorem t_ife {c a b : IE} {t x y : Expr} {pos : Pos} (hc : PT X t (rdt X.K (asT (den Φ c)))) (ha : PT X x (rdt X.K (asT (den Φ a)))) (hb : PT X y (rdt X.K (asT (den Φ b)))) : PT X (.IfExp t x y pos) (rdt X.K (asT (den Φ (.ife c a b)))) := by
  refine PT.imp (pt_ife hc ha hb) fun σ H Q ⟨N, μ, st, ρ, w, er, p⟩ => ?_
  have p' : post (mbind (mbind (den Φ c ρ) fun x => mbind (mo (asBl x)) fun k => if k then sd a ρ (den Φ a ρ) else sd b ρ (den Φ b ρ)) (fun x => mo (asBl x)) st) _ := p
  rw [bindbind] at p'
  have e : (fun d => mbind (mbind (mo (asBl d)) fun k => if k = true then sd a ρ (den Φ a ρ) else sd b ρ (den Φ b ρ)) fun x => mo (asBl x)) = fun d => mbind (mo (asBl d)) fun k => mbind (if k = true then sd a ρ (den Φ a ρ) else sd b ρ (den Φ b ρ)) fun x => mo (asBl x) := by
    funext d
    rw [bindbind]
  rw [e] at p'
  refine rdt_bind w er p' fun kk s H1 μ1 ef w1 er1 p1 => ?_
  cases kk with
  | true =>
    rw [if_pos rfl] at p1 ⊢
    exact ⟨N, μ1, s, ρ, w1, er1, post_mono (sd_asT p1) fun d s q H' μ' ef' w' => q H' μ' (ef.trans ef') w'⟩
  | false =>
    rw [if_neg Bool.false_ne_true] at p1 ⊢
    exact ⟨N, μ1, s, ρ, w1, er1, post_mono (sd_asT p1) fun d s q H' μ' ef' w' => q H' μ' (ef.trans ef') w'⟩
theorem sl_nil : SL X Φ .nil [] :=
  ⟨pa_nil_rd, pa_nil_rd, fun _ h => (nomatch h), fun _ => rfl, fun _ => rfl, fun _ _ h => absurd rfl h, fun _ _ h => absurd rfl h, PTs.imp pts_nil fun σ H Q ⟨N, μ, st, ρ, w, er, p⟩ => p H μ Eff.refl w⟩
theorem sl_cons {a : IE} {r : IEs} {e : Expr} {es : List Expr} (hs : isStar e = false) (h : SE X Φ a e) (t : SL X Φ r es) : SL X Φ (.cons a r) (e :: es) := by
  refine ⟨pa_cons_S hs h.pe t.s, pa_cons_W hs h.pe t.w, fun x hx => ?_, fun h => (nomatch h), fun h => (nomatch h), fun o pos _ => ?_, fun o pos _ => ?_, ?_⟩
  · rcases List.mem_cons.mp hx with rfl | hx
    · exact hs
    · exact t.ns x hx
  · cases es with
    | nil =>
      have e := t.nil rfl
      subst e
      exact s_b1 h.pe
    | cons y ys =>
      cases r with
      | nil => exact nomatch t.nil' rfl
      | cons b r =>
        cases o with
        | And => exact s_bAnd h.pe (t.bv .And pos (List.cons_ne_nil _ _))
        | Or => exact s_bOr h.pe (t.bv .Or pos (List.cons_ne_nil _ _))
  · cases es with
    | nil =>
      have e := t.nil rfl
      subst e
      exact tb1 h.pt
    | cons y ys =>
      cases r with
      | nil => exact nomatch t.nil' rfl
      | cons b r =>
        cases o with
        | And => exact tbAnd h.pt (t.bt .And pos (List.cons_ne_nil _ _))
        | Or => exact tbOr h.pt (t.bt .Or pos (List.cons_ne_nil _ _))
  · cases es with
    | nil =>
      have e := t.nil rfl
      subst e
      exact PTs.imp (pts_one h.pt) fun σ H Q q => q
    | cons y ys =>
      cases r with
      | nil => exact nomatch t.nil' rfl
      | cons b r => exact ⟨fun pins s σ H Q I ⟨N, μ, st, ρ, w, er, p⟩ => (show False from p).elim⟩
mutual
theorem snd_E : ∀ (ir : IE) {X : Cx} {Γ : Ctx} (C : CtxOk X Γ Φ k) (e : Expr), chk ir Γ e = true → SE X Φ ir e
  | .var i, X, Γ, C, e, h => by
    cases e <;> first | (exact absurd h Bool.false_ne_true) | skip
    rename_i x pos
    have h' : (nameAt Γ i x && visB Γ x && okName x) = true := h
    rw [Bool.and_eq_true, Bool.and_eq_true] at h'
    exact se_val (s_var C h'.1.1 h'.1.2 h'.2) fun _ => rfl
  | .int i, X, Γ, C, e, h => by
    cases e <;> first | (exact absurd h Bool.false_ne_true) | skip
    rename_i c n pos
    cases c <;> first | (exact absurd h Bool.false_ne_true) | skip
    have h' := of_decide_eq_true h
    subst h'
    exact se_val (s_const pe_int fun _ _ _ => .int _) fun _ => rfl
  | .str i, X, Γ, C, e, h => by
    cases e <;> first | (exact absurd h Bool.false_ne_true) | skip
    rename_i c n pos
    cases c <;> first | (exact absurd h Bool.false_ne_true) | skip
    have h' := of_decide_eq_true h
    subst h'
    exact se_val (s_const pe_str fun _ _ _ => .str _) fun _ => rfl
  | .bl i, X, Γ, C, e, h => by
    cases e <;> first | (exact absurd h Bool.false_ne_true) | skip
    rename_i c n pos
    cases c <;> first | (exact absurd h Bool.false_ne_true) | skip
    have h' := of_decide_eq_true h
    subst h'
    exact se_val (s_const pe_bl fun _ _ _ => .bl _) fun _ => rfl
  | .non, X, Γ, C, e, h => by
    cases e <;> first | (exact absurd h Bool.false_ne_true) | skip
    rename_i c n pos
    cases c <;> first | (exact absurd h Bool.false_ne_true) | skip
    exact se_val (s_const pe_non fun _ _ _ => .non) fun _ => rfl
  | .glob x d, X, Γ, C, e, h => by
    cases e <;> first | (exact absurd h Bool.false_ne_true) | skip
    rename_i y pos
    have h' : (decide (x = y) && glB Γ y && (match Γ.gl.lookup y with
      | some d' => sameF d d'
      | none => false)) = true := h
    rw [Bool.and_eq_true, Bool.and_eq_true] at h'
    obtain ⟨⟨h1, h2⟩, h3⟩ := h'
    obtain ⟨g1, g2⟩ := C.gl_ h2
    cases q : Γ.gl.lookup y with
    | none => rw [q] at h3; cases h3
    | some d' =>
      rw [q] at h3
      obtain ⟨v, u, m1, m2, m3⟩ := C.gl y d' q
      have e : d = d' := by
        cases d <;> cases d' <;> first | rfl | (exact absurd h3 Bool.false_ne_true) | (have := of_decide_eq_true h3; subst this; rfl)
      subst e
      exact se_val (s_const (pe_glob g1 m1 m2 g2) m3) fun _ => rfl
  | .bin o a b, X, Γ, C, e, h => by
    cases e <;> first | (exact absurd h Bool.false_ne_true) | skip
    rename_i l o' r pos
    have h' : (decide (o = o') && chk a Γ l && chk b Γ r) = true := h
    rw [Bool.and_eq_true, Bool.and_eq_true] at h'
    have e := of_decide_eq_true h'.1.1
    subst e
    exact se_val (s_bin (snd_E a C l h'.1.2).pe (snd_E b C r h'.2).pe) fun _ => rfl
  | .neg a, X, Γ, C, e, h => by
    cases e <;> first | (exact absurd h Bool.false_ne_true) | skip
    rename_i o x pos
    cases o <;> first | (exact absurd h Bool.false_ne_true) | skip
    exact se_val (s_neg (snd_E a C x h).pe) fun _ => rfl
  | .cmp o a b, X, Γ, C, e, h => by
    cases e <;> first | (exact absurd h Bool.false_ne_true) | skip
    rename_i l os rs pos
    match os, rs, h with
    | [o'], [r], h =>
      have h' : (decide (o = o') && chk a Γ l && chk b Γ r && !isSet r) = true := h
      rw [Bool.and_eq_true, Bool.and_eq_true, Bool.and_eq_true] at h'
      have e := of_decide_eq_true h'.1.1.1
      subst e
      have hm := marks_of o (by simpa using h'.2)
      exact ⟨s_cmp C hm (snd_E a C l h'.1.1.2).pe (snd_E b C r h'.1.2).pe, t_cmp C hm (snd_E a C l h'.1.1.2).pe (snd_E b C r h'.1.2).pe⟩
  | .chain a o b o2 c, X, Γ, C, e, h => by
    cases e <;> first | (exact absurd h Bool.false_ne_true) | skip
    rename_i l os rs pos
    match os, rs, h with
    | [o', o2'], [r, r2], h =>
      have h' : (decide (o = o') && decide (o2 = o2') && chk a Γ l && chk b Γ r && chk c Γ r2 && !isSet r && !isSet r2 && decide (o ≠ .In) && decide (o ≠ .NotIn)) = true := h
      simp only [Bool.and_eq_true] at h'
      obtain ⟨⟨⟨⟨⟨⟨⟨⟨e1, e2⟩, h1⟩, h2⟩, h3⟩, h4⟩, h5⟩, h6⟩, h7⟩ := h'
      have e1 := of_decide_eq_true e1
      have e2 := of_decide_eq_true e2
      subst e1 e2
      have hm : isSet r2 = false := by simpa using h5
      exact ⟨s_chain C hm (snd_E a C l h1).pe (snd_E b C r h2).pe (snd_E c C r2 h3).pe, t_chain C hm (snd_E a C l h1).pe (snd_E b C r h2).pe (snd_E c C r2 h3).pe⟩
  | .bool o es, X, Γ, C, e, h => by
    cases e <;> first | (exact absurd h Bool.false_ne_true) | skip
    rename_i o' xs pos
    have h' : (decide (o = o') && chks es Γ xs) = true := h
    rw [Bool.and_eq_true] at h'
    have e := of_decide_eq_true h'.1
    subst e
    have S := snd_L es C xs h'.2
    by_cases hx : xs = []
    · have e := S.nil hx
      subst e
      refine ⟨⟨fun pins s σ H Q I ⟨N, μ, st, ρ, w, er, p⟩ => ?_⟩, ⟨fun pins s σ H Q I ⟨N, μ, st, ρ, w, er, p⟩ => ?_⟩⟩
      · cases o <;> exact (show False from p).elim
      · cases o <;> exact (show False from p).elim
    · exact ⟨rdgS (S.bv o pos hx), (S.bt o pos hx).pt⟩
  | .not_ a, X, Γ, C, e, h => by
    cases e <;> first | (exact absurd h Bool.false_ne_true) | skip
    rename_i o x pos
    cases o <;> first | (exact absurd h Bool.false_ne_true) | skip
    exact ⟨s_not (snd_E a C x h).pe, t_not (snd_E a C x h).pt⟩
  | .ife c a b, X, Γ, C, e, h => by
    cases e <;> first | (exact absurd h Bool.false_ne_true) | skip
    rename_i t x y pos
    have h' : (chk c Γ t && chk a Γ x && chk b Γ y) = true := h
    rw [Bool.and_eq_true, Bool.and_eq_true] at h'
    have S1 := snd_E c C t h'.1.1
    have S2 := snd_E a C x h'.1.2
    have S3 := snd_E b C y h'.2
    exact ⟨s_ife S1.pt S2.pe S3.pe, t_ife S1.pt S2.pt S3.pt⟩
  | .call f es, X, Γ, C, e, h => by
    cases e <;> first | (exact absurd h Bool.false_ne_true) | skip
    rename_i g xs ks pos
    cases g <;> first | (exact absurd h Bool.false_ne_true) | skip
    rename_i x p
    cases ks <;> first | (exact absurd h Bool.false_ne_true) | skip
    have h' : (glB Γ x && chks es Γ xs && (match Γ.tab[f]? with
      | some fn => decide (fn.name = x)
      | none => false)) = true := h
    rw [Bool.and_eq_true, Bool.and_eq_true] at h'
    have S := snd_L es C xs h'.1.2
    have h3 := h'.2
    cases q : Γ.tab[f]? with
    | none => rw [q] at h3; cases h3
    | some fn =>
      rw [q] at h3
      exact se_val (s_call C h'.1.1 q (of_decide_eq_true h3) S.ns S.nil S.s) fun _ => rfl
  | .bi b es, X, Γ, C, e, h => by
    cases e <;> first | (exact absurd h Bool.false_ne_true) | skip
    rename_i g xs ks pos
    cases g <;> first | (exact absurd h Bool.false_ne_true) | skip
    rename_i x p
    cases xs <;> first | (exact absurd h Bool.false_ne_true) | skip
    rename_i y ys
    cases ks <;> first | (exact absurd h Bool.false_ne_true) | skip
    have h' : (decide (x = biN b) && glB Γ x && chks es Γ (y :: ys)) = true := h
    rw [Bool.and_eq_true, Bool.and_eq_true] at h'
    have S := snd_L es C (y :: ys) h'.2
    exact se_val (s_bi C (of_decide_eq_true h'.1.1) h'.1.2 S.ns S.w) fun _ => rfl
  | .isi a t, X, Γ, C, e, h => by
    cases e <;> first | (exact absurd h Bool.false_ne_true) | skip
    rename_i g xs ks pos
    cases g <;> first | (exact absurd h Bool.false_ne_true) | skip
    rename_i x p
    match xs, ks, h with
    | [y, .Name T p2], [], h =>
      have h' : (decide (x = ("isinstance" : Str)) && glB Γ x && chk a Γ y && !isStar y && glB Γ T && decide (T = Str.ofString t) && decide (T ∈ bltNames) && decide (bootBuiltins T = some (.type t)) && decide (T ≠ "__name__")) = true := h
      simp only [Bool.and_eq_true] at h'
      obtain ⟨⟨⟨⟨⟨⟨⟨⟨h1, h2⟩, h3⟩, h4⟩, h5⟩, h6⟩, h7⟩, h8⟩, h9⟩ := h'
      have e := of_decide_eq_true h1
      subst e
      exact se_val (s_isi C h2 (snd_E a C y h3).pe (by simpa using h4) h5 (of_decide_eq_true h7) (of_decide_eq_true h8) (of_decide_eq_true h9)) fun _ => rfl
  | .ix a i, X, Γ, C, e, h => by
    cases e <;> first | (exact absurd h Bool.false_ne_true) | skip
    rename_i x y pos
    have h' : (chk a Γ x && chk i Γ y && !isSlice y) = true := h
    rw [Bool.and_eq_true, Bool.and_eq_true] at h'
    exact se_val (s_ix (by simpa using h'.2) (snd_E a C x h'.1.1).pe (snd_E i C y h'.1.2).pe) fun _ => rfl
  | .sl a lo hi, X, Γ, C, e, h => by
    cases e <;> first | (exact absurd h Bool.false_ne_true) | skip
    rename_i x y pos
    cases y <;> first | (exact absurd h Bool.false_ne_true) | skip
    rename_i l u st p2
    cases st <;> first | (exact absurd h Bool.false_ne_true) | skip
    have h' : (chk a Γ x && chkO lo Γ l && chkO hi Γ u) = true := h
    rw [Bool.and_eq_true, Bool.and_eq_true] at h'
    exact se_val (s_sl (snd_E a C x h'.1.1).pe (snd_O lo C l h'.1.2) (snd_O hi C u h'.2)) fun _ => rfl
  | .rev a, X, Γ, C, e, h => by
    cases e <;> first | (exact absurd h Bool.false_ne_true) | skip
    rename_i x y pos
    match y, h with
    | .Slice none none (some (.UnaryOp .USub (.Constant (.int 1) n p1) p2)) p3, h => exact se_val (s_rev (snd_E a C x h).pe) fun _ => rfl
  | .tup es, X, Γ, C, e, h => by
    cases e <;> first | (exact absurd h Bool.false_ne_true) | skip
    rename_i xs n pos
    exact se_val (s_tup (snd_L es C xs h).s) fun _ => rfl
  | .lst es, X, Γ, C, e, h => by
    cases e <;> first | (exact absurd h Bool.false_ne_true) | skip
    rename_i xs pos
    exact se_val (s_lst (snd_L es C xs h).s) fun _ => rfl
  | .newl es, X, Γ, C, e, h => by
    cases e <;> first | (exact absurd h Bool.false_ne_true) | skip
    rename_i xs pos
    exact se_val (s_newl (snd_L es C xs h).s) fun _ => rfl
  | .comp own elt t it c, X, Γ, C, e, h => by
    cases e <;> first | (exact absurd h Bool.false_ne_true) | skip
    rename_i x gs scope pos
    match gs, h with
    | [⟨tg, iter, ifs, 0⟩], h =>
      have h' : (chkI it Γ iter && (isTupE tg || noPair it) && !isSet iter && blkC Γ.N Γ.sc scope (ownN Γ own) && (slotsT t).all (fun i => own.contains i) && chkT (blk Γ scope) t tg && chks c (blk Γ scope) ifs && chk elt (blk Γ scope) x) = true := h
      simp only [Bool.and_eq_true] at h'
      obtain ⟨⟨⟨⟨⟨⟨⟨h1, h2⟩, h3⟩, h4⟩, h5⟩, h6⟩, h7⟩, h8⟩ := h'
      exact se_val (rdgS (s_comp C (snd_I it C tg iter h1 h2) (by simpa using h3) h4 h5 (fun X' C' e => e ▸ snd_T C' t tg h6) (fun X' C' e => e ▸ (snd_L c C' ifs h7).cs) (fun X' C' e => e ▸ rdg_toS (snd_E elt C' x h8).pe))) fun _ => rfl
  | .sset a, X, Γ, C, e, h => by
    cases e <;> first | (exact absurd h Bool.false_ne_true) | skip
    rename_i f xs kws pos
    match f, xs, kws, h with
    | .Name x p, [.Call (.Name y p2) [z] [] q2], [], h =>
      have h' : (decide (x = ("sorted" : Str)) && glB Γ x && decide (y = ("set" : Str)) && glB Γ y && chk a Γ z && !isStar z) = true := h
      simp only [Bool.and_eq_true] at h'
      obtain ⟨⟨⟨⟨⟨h1, h2⟩, h3⟩, h4⟩, h5⟩, h6⟩ := h'
      have e1 := of_decide_eq_true h1
      have e3 := of_decide_eq_true h3
      subst e1
      subst e3
      exact se_val (rdgS (s_sset C h2 h4 (by simpa using h6) (snd_E a C z h5).pe)) fun _ => rfl
theorem snd_L : ∀ (irs : IEs) {X : Cx} {Γ : Ctx} (C : CtxOk X Γ Φ k) (es : List Expr), chks irs Γ es = true → SL X Φ irs es
  | .nil, X, Γ, C, es, h => by
    cases es <;> first | (exact absurd h Bool.false_ne_true) | skip
    exact sl_nil
  | .cons a r, X, Γ, C, es, h => by
    cases es <;> first | (exact absurd h Bool.false_ne_true) | skip
    rename_i e es
    have h' : (!isStar e && chk a Γ e && chks r Γ es) = true := h
    rw [Bool.and_eq_true, Bool.and_eq_true] at h'
    exact sl_cons (by simpa using h'.1.1) (snd_E a C e h'.1.2) (snd_L r C es h'.2)
theorem snd_O : ∀ (o : IO) {X : Cx} {Γ : Ctx} (C : CtxOk X Γ Φ k) (e : Option Expr), chkO o Γ e = true → PO X e (rdO X.K (denO Φ o))
  | .no, X, Γ, C, e, h => by
    cases e <;> first | (exact absurd h Bool.false_ne_true) | skip
    exact o_none
  | .yes a, X, Γ, C, e, h => by
    cases e <;> first | (exact absurd h Bool.false_ne_true) | skip
    rename_i e
    exact o_some (snd_E a C e h).pe
theorem snd_I : ∀ (it : II) {X : Cx} {Γ : Ctx} (C : CtxOk X Γ Φ k) (tg e : Expr), chkI it Γ e = true → (isTupE tg || noPair it) = true → PI X tg e (rdI X.K (denI Φ it))
  | .seq a, X, Γ, C, tg, e, h, _ => i_seq (snd_E a C e h).pe
  | .range1 a, X, Γ, C, tg, e, h, _ => by
    cases e <;> first | (exact absurd h Bool.false_ne_true) | skip
    rename_i g xs ks pos
    cases g <;> first | (exact absurd h Bool.false_ne_true) | skip
    rename_i x p
    match xs, ks, h with
    | [y], [], h =>
      have h' : (decide (x = ("range" : Str)) && glB Γ x && chk a Γ y && !isStar y) = true := h
      simp only [Bool.and_eq_true] at h'
      obtain ⟨⟨⟨h1, h2⟩, h3⟩, h4⟩ := h'
      have e := of_decide_eq_true h1
      subst e
      exact i_range1 C h2 (by simpa using h4) (snd_E a C y h3).pe
  | .range2 a b, X, Γ, C, tg, e, h, _ => by
    cases e <;> first | (exact absurd h Bool.false_ne_true) | skip
    rename_i g xs ks pos
    cases g <;> first | (exact absurd h Bool.false_ne_true) | skip
    rename_i x p
    match xs, ks, h with
    | [y, z], [], h =>
      have h' : (decide (x = ("range" : Str)) && glB Γ x && chk a Γ y && chk b Γ z && !isStar y && !isStar z) = true := h
      simp only [Bool.and_eq_true] at h'
      obtain ⟨⟨⟨⟨⟨h1, h2⟩, h3⟩, h4⟩, h5⟩, h6⟩ := h'
      have e := of_decide_eq_true h1
      subst e
      exact i_range2 C h2 (by simpa using h5) (by simpa using h6) (snd_E a C y h3).pe (snd_E b C z h4).pe
  | .zip a b, X, Γ, C, tg, e, h, ht => by
    cases e <;> first | (exact absurd h Bool.false_ne_true) | skip
    rename_i g xs ks pos
    cases g <;> first | (exact absurd h Bool.false_ne_true) | skip
    rename_i x p
    match xs, ks, h with
    | [y, z], [], h =>
      have h' : (decide (x = ("zip" : Str)) && glB Γ x && chk a Γ y && chk b Γ z && !isStar y && !isStar z) = true := h
      simp only [Bool.and_eq_true] at h'
      obtain ⟨⟨⟨⟨⟨h1, h2⟩, h3⟩, h4⟩, h5⟩, h6⟩ := h'
      have e := of_decide_eq_true h1
      subst e
      cases tg <;> first | (exact absurd ht Bool.false_ne_true) | skip
      exact i_zip C h2 (by simpa using h5) (by simpa using h6) (snd_E a C y h3).pe (snd_E b C z h4).pe
  | .enum a, X, Γ, C, tg, e, h, ht => by
    cases e <;> first | (exact absurd h Bool.false_ne_true) | skip
    rename_i g xs ks pos
    cases g <;> first | (exact absurd h Bool.false_ne_true) | skip
    rename_i x p
    match xs, ks, h with
    | [y], [], h =>
      have h' : (decide (x = ("enumerate" : Str)) && glB Γ x && chk a Γ y && !isStar y) = true := h
      simp only [Bool.and_eq_true] at h'
      obtain ⟨⟨⟨h1, h2⟩, h3⟩, h4⟩ := h'
      have e := of_decide_eq_true h1
      subst e
      cases tg <;> first | (exact absurd ht Bool.false_ne_true) | skip
      exact i_enum C h2 (by simpa using h4) (snd_E a C y h3).pe
end
end
end Fw
end
-- Fw12
section
set_option Elab.async false
set_option linter.all false
set_option maxRecDepth 100000
set_option maxHeartbeats 4000000
/-! Fw12: statements: their reading, and the relation between frames. -/
namespace Fw
open PySem PySem.Spec PyProof.Rows L2 RZ

/-- the lists that are the frame's own -/
def ownS (σ : L2.St) (ρ : Env) : Addr → Prop := fun a => ∃ (i : Nat) (ds : List Dat), ρ[i]? = some (Sl.o ds) ∧ σ[i]? = some (some (V.ref a))
def NN (N0 : Addr → Prop) (σ : L2.St) (ρ : Env) : Addr → Prop := fun a => N0 a ∨ ownS σ ρ a
structure SRel (K : PySem.W.Frag) (H : Hp) (N0 : Addr → Prop) (μ : List Addr) (st : Store) (σ : L2.St) (ρ : Env) : Prop where
  w : WOk K H (NN N0 σ ρ) μ st
  er : ER K H (NN N0 σ ρ) μ σ ρ
  sep : ∀ a, ownS σ ρ a → ¬ N0 a
  dis : ∀ (i j : Nat) (ds es : List Dat) (a : Addr), ρ[i]? = some (Sl.o ds) → ρ[j]? = some (Sl.o es) → σ[i]? = some (some (V.ref a)) → σ[j]? = some (some (V.ref a)) → i = j
structure SEff (H : Hp) (μ : List Addr) (O : Addr → Prop) (H' : Hp) (μ' : List Addr) (O' : Addr → Prop) : Prop where
  keep : ∀ a o, H a = some o → a ∉ μ → ¬ O a → H' a = some o
  pre : ∀ (n : Nat) (a : Addr), μ[n]? = some a → μ'[n]? = some a
  new : ∀ a ∈ μ', a ∈ μ ∨ H a = none
  newO : ∀ a, O' a → O a ∨ H a = none
  there : ∀ a, H a ≠ none → H' a ≠ none
theorem SEff.refl {H : Hp} {μ : List Addr} {O : Addr → Prop} : SEff H μ O H μ O := ⟨fun _ _ h _ _ => h, fun _ _ h => h, fun _ h => .inl h, fun _ h => .inl h, fun _ h => h⟩
theorem SEff.trans {H1 H2 H3 : Hp} {μ1 μ2 μ3 : List Addr} {O1 O2 O3 : Addr → Prop} (a : SEff H1 μ1 O1 H2 μ2 O2) (b : SEff H2 μ2 O2 H3 μ3 O3) : SEff H1 μ1 O1 H3 μ3 O3 := by
  have gone : ∀ c, H2 c = none → H1 c = none := fun c h => by
    cases e : H1 c with
    | none => rfl
    | some o => exact absurd h (a.there c (by rw [e]; exact fun z => nomatch z))
  refine ⟨fun c o h f g => b.keep c o (a.keep c o h f g) (fun q => ?_) fun q => ?_, fun n c h => b.pre n c (a.pre n c h), fun c h => ?_, fun c h => ?_, fun c h => b.there c (a.there c h)⟩
  · rcases a.new c q with q | q
    · exact f q
    · rw [h] at q; cases q
  · rcases a.newO c q with q | q
    · exact g q
    · rw [h] at q; cases q
  · rcases b.new c h with q | q
    · exact a.new c q
    · exact .inr (gone c q)
  · rcases b.newO c h with q | q
    · exact a.newO c q
    · exact .inr (gone c q)
theorem SEff.mo {H H' : Hp} {μ μ' : List Addr} {N0 O O' : Addr → Prop} (e : SEff H μ O H' μ' O') : Mo H (Fo μ fun a => N0 a ∨ O a) μ H' (Fo μ' fun a => N0 a ∨ O' a) μ' :=
  ⟨fun a o h f => e.keep a o h (fun q => f (.inl q)) fun q => f (.inr (.inr q)), fun a h => by
    rcases h with h | h | h
    · rcases e.new a h with q | q
      · exact .inl (.inl q)
      · exact .inr q
    · exact .inl (.inr (.inl h))
    · rcases e.newO a h with q | q
      · exact .inl (.inr (.inr q))
      · exact .inr q, e.pre⟩
section
variable {K : PySem.W.Frag} {H H' : Hp} {N N0 : Addr → Prop} {μ μ' : List Addr} {st st' : Store} {σ : L2.St} {ρ : Env}
theorem Eff.sEff (e : Eff H μ H' μ') (w : WOk K H N μ st) (w' : WOk K H' N μ' st') {O : Addr → Prop} : SEff H μ O H' μ' O := by
  refine ⟨fun a o h f _ => e.keep a o h f, e.pre, e.new, fun _ h => .inl h, fun a h => ?_⟩
  by_cases f : a ∈ μ
  · obtain ⟨n, hn⟩ := List.getElem?_of_mem f
    exact w'.there (.inl (List.mem_of_getElem? (e.pre n a hn)))
  · cases q : H a with
    | none => exact absurd q h
    | some o => rw [e.keep a o q f]; exact fun z => nomatch z
theorem SRel.eff (r : SRel K H N0 μ st σ ρ) (e : Eff H μ H' μ') (w' : WOk K H' (NN N0 σ ρ) μ' st') : SRel K H' N0 μ' st' σ ρ :=
  ⟨w', r.er.eff r.w e, r.sep, r.dis⟩
/-- forget some of what must not be leant on -/
theorem mo_sub {N N' : Addr → Prop} (h : ∀ a, N' a → N a) : Mo H (Fo μ N) μ H (Fo μ N') μ :=
  ⟨fun _ _ h _ => h, fun a q => by
    rcases q with q | q
    · exact .inl (.inl q)
    · exact .inl (.inr (h a q)), fun _ _ h => h⟩
/-- slots change so that no list becomes the frame's own -/
theorem SRel.less {σ' : L2.St} {ρ' : Env} (r : SRel K H N0 μ st σ ρ) (er : ER K H (NN N0 σ ρ) μ σ' ρ') (ho : ∀ (i : Nat) (ds : List Dat), ρ'[i]? = some (Sl.o ds) → ρ[i]? = some (Sl.o ds) ∧ σ'[i]? = σ[i]?) : SRel K H N0 μ st σ' ρ' ∧ ∀ a, ownS σ' ρ' a → ownS σ ρ a := by
  have sub : ∀ a, ownS σ' ρ' a → ownS σ ρ a := fun a ⟨i, ds, h1, h2⟩ => by
    obtain ⟨g1, g2⟩ := ho i ds h1
    exact ⟨i, ds, g1, by rw [← g2]; exact h2⟩
  have subN : ∀ a, NN N0 σ' ρ' a → NN N0 σ ρ a := fun a h => h.elim .inl fun q => .inr (sub a q)
  refine ⟨⟨r.w.subN subN, ⟨er.1, fun i s h => ?_⟩, fun a h => r.sep a (sub a h), fun i j ds es a h1 h2 h3 h4 => ?_⟩, sub⟩
  · have q := er.2 i s h
    cases s with
    | un => exact True.intro
    | v d =>
      obtain ⟨v, q1, q2⟩ := q
      exact ⟨v, q1, q2.mo' (mo_sub subN)⟩
    | o ds =>
      obtain ⟨a, vs, q1, q2, q3, q4⟩ := q
      exact ⟨a, vs, q1, .inr ⟨i, ds, h, q1⟩, q3, q4.mo' (mo_sub subN)⟩
  · obtain ⟨g1, g2⟩ := ho i ds h1
    obtain ⟨g3, g4⟩ := ho j es h2
    exact r.dis i j ds es a g1 g3 (by rw [← g2]; exact h3) (by rw [← g4]; exact h4)
theorem get_set_o {i j : Nat} {d : Dat} {ds : List Dat} (h : (ρ.set i (.v d))[j]? = some (Sl.o ds)) : ρ[j]? = some (Sl.o ds) ∧ i ≠ j := by
  by_cases hj : i = j
  · subst hj
    by_cases hl : i < ρ.length
    · rw [List.getElem?_set_self hl] at h
      cases h
    · rw [List.getElem?_eq_none (by rw [List.length_set]; omega)] at h
      cases h
  · rw [List.getElem?_set_ne hj] at h
    exact ⟨h, hj⟩
theorem SRel.set {i : Nat} {v : V} {d : Dat} (r : SRel K H N0 μ st σ ρ) (rv : Rep K H (Fo μ (NN N0 σ ρ)) μ v d) : SRel K H N0 μ st (σ.set i (some v)) (ρ.set i (.v d)) ∧ ∀ a, ownS (σ.set i (some v)) (ρ.set i (.v d)) a → ownS σ ρ a := by
  refine r.less (r.er.set rv) fun j ds h => ?_
  obtain ⟨h1, h2⟩ := get_set_o h
  exact ⟨h1, List.getElem?_set_ne h2⟩
theorem less_eff {O O' : Addr → Prop} (h : ∀ a, O' a → O a) : SEff H μ O H μ O' := ⟨fun _ _ h _ _ => h, fun _ _ h => h, fun _ h => .inl h, fun a q => .inl (h a q), fun _ h => h⟩
mutual
theorem bindT_o : ∀ {t : IT} {d : Dat} {ρ ρ' : Env}, bindT t d ρ = some ρ' → ρ'.length = ρ.length ∧ ∀ (j : Nat) (ds : List Dat), ρ'[j]? = some (Sl.o ds) → ρ[j]? = some (Sl.o ds) ∧ j ∉ slotsT t
  | .var i, d, ρ, ρ', h => by
    cases (show some (ρ.set i (.v d)) = some ρ' from h)
    refine ⟨List.length_set, fun j ds h => ?_⟩
    obtain ⟨h1, h2⟩ := get_set_o h
    exact ⟨h1, fun z => h2 (List.mem_singleton.mp z).symm⟩
  | .tup ts, .tup ds, ρ, ρ', h => bindTs_o (t := ts) (ds := ds) (show bindTs ts ds ρ = some ρ' from h)
  | .tup _, .non, _, _, h => no_some h
  | .tup _, .bl _, _, _, h => no_some h
  | .tup _, .int _, _, _, h => no_some h
  | .tup _, .str _, _, _, h => no_some h
  | .tup _, .lst _, _, _, h => no_some h
  | .tup _, .ref _, _, _, h => no_some h
  | .tup _, .scr _, _, _, h => no_some h
theorem bindTs_o : ∀ {t : ITs} {ds : List Dat} {ρ ρ' : Env}, bindTs t ds ρ = some ρ' → ρ'.length = ρ.length ∧ ∀ (j : Nat) (es : List Dat), ρ'[j]? = some (Sl.o es) → ρ[j]? = some (Sl.o es) ∧ j ∉ slotsTs t
  | .nil, [], ρ, ρ', h => by
    cases (show some ρ = some ρ' from h)
    exact ⟨rfl, fun j es h => ⟨h, fun z => nomatch z⟩⟩
  | .nil, _ :: _, _, _, h => no_some h
  | .cons _ _, [], _, _, h => no_some h
  | .cons t r, d :: ds, ρ, ρ', h => by
    have h' : (match bindT t d ρ with
      | some ρ' => bindTs r ds ρ'
      | none => none) = some ρ' := h
    cases e : bindT t d ρ with
    | none => rw [e] at h'; cases h'
    | some ρ1 =>
      rw [e] at h'
      obtain ⟨l1, g1⟩ := bindT_o e
      obtain ⟨l2, g2⟩ := bindTs_o (show bindTs r ds ρ1 = some ρ' from h')
      refine ⟨l2.trans l1, fun j es q => ?_⟩
      obtain ⟨q1, q2⟩ := g2 j es q
      obtain ⟨q3, q4⟩ := g1 j es q1
      exact ⟨q3, fun z => (List.mem_append.mp z).elim q4 q2⟩
end
/-- a new list becomes the frame's own -/
theorem SRel.setO {i : Nat} {p : Addr} {vs : List V} {ds : List Dat} (r : SRel K H N0 μ st σ ρ) (hp : H p = none) (rv : Reps K H (Fo μ (NN N0 σ ρ)) μ vs ds) (hi : i < ρ.length) :
    SRel K (upd H p (.lst vs)) N0 μ st (σ.set i (some (.ref p))) (ρ.set i (.o ds)) ∧ SEff H μ (ownS σ ρ) (upd H p (.lst vs)) μ (ownS (σ.set i (some (.ref p))) (ρ.set i (.o ds))) := by
  have hσ : i < σ.length := by rw [r.er.1]; exact hi
  have own' : ∀ a, ownS (σ.set i (some (.ref p))) (ρ.set i (.o ds)) a → a = p ∨ ownS σ ρ a := fun a ⟨j, es, h1, h2⟩ => by
    by_cases hj : i = j
    · subst hj
      rw [List.getElem?_set_self hσ] at h2
      cases h2
      exact .inl rfl
    · rw [List.getElem?_set_ne hj] at h1 h2
      exact .inr ⟨j, es, h1, h2⟩
  have hpN : ¬ NN N0 σ ρ p := fun h => r.w.trk p h hp
  have hpμ : p ∉ μ := fun h => r.w.there (.inl h) hp
  have nn' : ∀ a, NN N0 (σ.set i (some (.ref p))) (ρ.set i (.o ds)) a → a = p ∨ NN N0 σ ρ a := fun a h => h.elim (fun q => .inr (.inl q)) fun q => (own' a q).elim .inl fun q => .inr (.inr q)
  have mo : Mo H (Fo μ (NN N0 σ ρ)) μ (upd H p (.lst vs)) (Fo μ (NN N0 (σ.set i (some (.ref p))) (ρ.set i (.o ds)))) μ := ⟨fun a o h _ => by rw [upd_ne (ne_of_none h hp)]; exact h, fun a h => by
    rcases h with h | h
    · exact .inl (.inl h)
    · rcases nn' a h with rfl | h
      · exact .inr hp
      · exact .inl (.inr h), fun _ _ h => h⟩
  refine ⟨⟨?_, ⟨by rw [List.length_set, List.length_set]; exact r.er.1, fun j s h => ?_⟩, fun a h q => ?_, fun j l es fs a h1 h2 h3 h4 => ?_⟩, ⟨fun a o h _ _ => by rw [upd_ne (ne_of_none h hp)]; exact h, fun _ _ h => h, fun _ h => .inl h, fun a h => (own' a h).elim (fun z => .inr (by rw [z]; exact hp)) .inl, fun a h => ?_⟩⟩
  · refine (r.w.addN (vs := vs) hp).subN fun a h => ?_
    rcases nn' a h with h | h
    · exact .inr h
    · exact .inl h
  · by_cases hj : i = j
    · subst hj
      rw [List.getElem?_set_self hi] at h
      cases h
      have e : (σ.set i (some (.ref p)))[i]? = some (some (.ref p)) := List.getElem?_set_self hσ
      exact ⟨p, vs, e, .inr ⟨i, ds, List.getElem?_set_self hi, e⟩, upd_same, rv.mo' mo⟩
    · rw [List.getElem?_set_ne hj] at h
      have q := r.er.2 j s h
      cases s with
      | un => exact True.intro
      | v d =>
        obtain ⟨v, q1, q2⟩ := q
        exact ⟨v, by rw [List.getElem?_set_ne hj]; exact q1, q2.mo' mo⟩
      | o es =>
        obtain ⟨a, us, q1, q2, q3, q4⟩ := q
        have e : (σ.set i (some (.ref p)))[j]? = some (some (.ref a)) := by rw [List.getElem?_set_ne hj]; exact q1
        refine ⟨a, us, e, .inr ⟨j, es, by rw [List.getElem?_set_ne hj]; exact h, e⟩, by rw [upd_ne (ne_of_none q3 hp)]; exact q3, q4.mo' mo⟩
  · rcases own' a h with rfl | h
    · exact r.w.trk a (.inl q) hp
    · exact r.sep a h q
  · by_cases hj : i = j
    · subst hj
      by_cases hl : i = l
      · exact hl
      · rw [List.getElem?_set_self hσ] at h3
        cases h3
        rw [List.getElem?_set_ne hl] at h2 h4
        exact absurd (.inr ⟨l, fs, h2, h4⟩) hpN
    · rw [List.getElem?_set_ne hj] at h1 h3
      by_cases hl : i = l
      · subst hl
        rw [List.getElem?_set_self hσ] at h4
        cases h4
        exact absurd (.inr ⟨j, es, h1, h3⟩) hpN
      · rw [List.getElem?_set_ne hl] at h2 h4
        exact r.dis j l es fs a h1 h2 h3 h4
  · by_cases z : a = p
    · subst z; rw [upd_same]; exact fun z => nomatch z
    · rw [upd_ne z]; exact h
/-- the frame's own list grows or changes -/
theorem SRel.updO {i : Nat} {a : Addr} {vs : List V} {ds es : List Dat} (r : SRel K H N0 μ st σ ρ) (h1 : ρ[i]? = some (Sl.o es)) (h2 : σ[i]? = some (some (V.ref a))) (rv : Reps K H (Fo μ (NN N0 σ ρ)) μ vs ds) :
    SRel K (upd H a (.lst vs)) N0 μ st σ (ρ.set i (.o ds)) ∧ SEff H μ (ownS σ ρ) (upd H a (.lst vs)) μ (ownS σ (ρ.set i (.o ds))) := by
  have hi : i < ρ.length := (List.getElem?_eq_some_iff.mp h1).1
  have ho : ownS σ ρ a := ⟨i, es, h1, h2⟩
  have same : ∀ b, ownS σ (ρ.set i (.o ds)) b ↔ ownS σ ρ b := fun b => by
    constructor
    · rintro ⟨j, fs, q1, q2⟩
      by_cases hj : i = j
      · subst hj; exact ⟨i, es, h1, q2⟩
      · rw [List.getElem?_set_ne hj] at q1; exact ⟨j, fs, q1, q2⟩
    · rintro ⟨j, fs, q1, q2⟩
      by_cases hj : i = j
      · subst hj; exact ⟨i, ds, List.getElem?_set_self hi, q2⟩
      · exact ⟨j, fs, by rw [List.getElem?_set_ne hj]; exact q1, q2⟩
  have sameN : NN N0 σ (ρ.set i (.o ds)) = NN N0 σ ρ := funext fun b => propext ⟨fun h => h.elim .inl fun q => .inr ((same b).mp q), fun h => h.elim .inl fun q => .inr ((same b).mpr q)⟩
  have hN : NN N0 σ ρ a := .inr ho
  have mo : Mo H (Fo μ (NN N0 σ ρ)) μ (upd H a (.lst vs)) (Fo μ (NN N0 σ ρ)) μ := mo_updN hN
  refine ⟨⟨by rw [sameN]; exact r.w.updN hN, ⟨by rw [List.length_set]; exact r.er.1, fun j s h => ?_⟩, fun b h => r.sep b ((same b).mp h), fun j l fs gs b q1 q2 q3 q4 => ?_⟩, ⟨fun b o h _ g => by rw [upd_ne fun z => g (by rw [z]; exact ho)]; exact h, fun _ _ h => h, fun _ h => .inl h, fun b h => .inl ((same b).mp h), fun b h => ?_⟩⟩
  · rw [sameN]
    by_cases hj : i = j
    · subst hj
      rw [List.getElem?_set_self hi] at h
      cases h
      exact ⟨a, vs, h2, hN, upd_same, rv.mo' mo⟩
    · rw [List.getElem?_set_ne hj] at h
      have q := r.er.2 j s h
      cases s with
      | un => exact True.intro
      | v d =>
        obtain ⟨v, q1, q2⟩ := q
        exact ⟨v, q1, q2.mo' mo⟩
      | o fs =>
        obtain ⟨b, us, q1, q2, q3, q4⟩ := q
        have hne : b ≠ a := fun z => hj (r.dis i j es fs a h1 h h2 (by rw [← z]; exact q1))
        exact ⟨b, us, q1, q2, by rw [upd_ne hne]; exact q3, q4.mo' mo⟩
  · have back : ∀ (m : Nat) (xs : List Dat), (ρ.set i (.o ds))[m]? = some (Sl.o xs) → ∃ ys, ρ[m]? = some (Sl.o ys) := fun m xs q => by
      by_cases hm : i = m
      · subst hm; exact ⟨es, h1⟩
      · rw [List.getElem?_set_ne hm] at q; exact ⟨xs, q⟩
    obtain ⟨ys, g1⟩ := back j fs q1
    obtain ⟨zs, g2⟩ := back l gs q2
    exact r.dis j l ys zs b g1 g2 q3 q4
  · by_cases z : b = a
    · subst z; rw [upd_same]; exact fun z => nomatch z
    · rw [upd_ne z]; exact h
/-- a list of the frame's own is from now on a plain value -/
theorem SRel.frz {i : Nat} {ds : List Dat} (r : SRel K H N0 μ st σ ρ) (h1 : ρ[i]? = some (Sl.o ds)) : SRel K H N0 μ st σ (ρ.set i (.v (.lst ds))) ∧ ∀ a, ownS σ (ρ.set i (.v (.lst ds))) a → ownS σ ρ a := by
  have hi : i < ρ.length := (List.getElem?_eq_some_iff.mp h1).1
  obtain ⟨a, vs, h2, h3, h4, h5⟩ := r.er.2 i _ h1
  have sub : ∀ b, ownS σ (ρ.set i (.v (.lst ds))) b → ownS σ ρ b ∧ b ≠ a := fun b ⟨j, fs, q1, q2⟩ => by
    obtain ⟨g1, g2⟩ := get_set_o q1
    refine ⟨⟨j, fs, g1, q2⟩, fun z => ?_⟩
    subst z
    exact g2 (r.dis i j ds fs b h1 g1 h2 q2)
  have subN : ∀ b, NN N0 σ (ρ.set i (.v (.lst ds))) b → NN N0 σ ρ b := fun b h => h.elim .inl fun q => .inr (sub b q).1
  refine ⟨⟨r.w.subN subN, ⟨by rw [List.length_set]; exact r.er.1, fun j s h => ?_⟩, fun b h => r.sep b (sub b h).1, fun j l fs gs b q1 q2 q3 q4 => ?_⟩, fun b h => (sub b h).1⟩
  · by_cases hj : i = j
    · subst hj
      rw [List.getElem?_set_self hi] at h
      cases h
      refine ⟨.ref a, h2, .lst h4 ?_ (h5.mo' (mo_sub subN))⟩
      rintro (q | q | q)
      · exact r.w.sep a q h3
      · exact r.sep a ⟨i, ds, h1, h2⟩ q
      · exact (sub a q).2 rfl
    · rw [List.getElem?_set_ne hj] at h
      have q := r.er.2 j s h
      cases s with
      | un => exact True.intro
      | v d =>
        obtain ⟨v, q1, q2⟩ := q
        exact ⟨v, q1, q2.mo' (mo_sub subN)⟩
      | o fs =>
        obtain ⟨b, us, q1, q2, q3, q4⟩ := q
        exact ⟨b, us, q1, .inr ⟨j, fs, by rw [List.getElem?_set_ne hj]; exact h, q1⟩, q3, q4.mo' (mo_sub subN)⟩
  · exact r.dis j l fs gs b (get_set_o q1).1 (get_set_o q2).1 q3 q4
end

/-! ### the reading of a statement -/
def SB (K : PySem.W.Frag) (N0 : Addr → Prop) (D : Ends) (H : Hp) (μ : List Addr) (O : Addr → Prop) : Fl → Store → Prop := fun fl st' => match fl with
  | .nx ρ' => ∀ σ' H' μ', SEff H μ O H' μ' (ownS σ' ρ') → SRel K H' N0 μ' st' σ' ρ' → D.nx σ' H'
  | .brk ρ' => ∀ σ' H' μ', SEff H μ O H' μ' (ownS σ' ρ') → SRel K H' N0 μ' st' σ' ρ' → D.bk σ' H'
  | .cont ρ' => ∀ σ' H' μ', SEff H μ O H' μ' (ownS σ' ρ') → SRel K H' N0 μ' st' σ' ρ' → D.ct σ' H'
  | .ret d => ∀ v H' μ', SEff H μ O H' μ' (fun _ => False) → WOk K H' N0 μ' st' → Rep K H' (Fo μ' N0) μ' v d → D.rt v H'
def rs (K : PySem.W.Frag) (f : Env → M Fl) : TS := fun D σ H => ∃ N0 μ st ρ, SRel K H N0 μ st σ ρ ∧ post (f ρ st) (SB K N0 D H μ (ownS σ ρ))
theorem SB.eff {K : PySem.W.Frag} {N0 : Addr → Prop} {D : Ends} {H H' : Hp} {μ μ' : List Addr} {O O' : Addr → Prop} {fl : Fl} {s : Store} (h : SB K N0 D H μ O fl s) (e : SEff H μ O H' μ' O') : SB K N0 D H' μ' O' fl s := by
  cases fl with
  | nx ρ => exact fun σ1 H1 μ1 f r => h σ1 H1 μ1 (e.trans f) r
  | brk ρ => exact fun σ1 H1 μ1 f r => h σ1 H1 μ1 (e.trans f) r
  | cont ρ => exact fun σ1 H1 μ1 f r => h σ1 H1 μ1 (e.trans f) r
  | ret d => exact fun v H1 μ1 f w r => h v H1 μ1 (e.trans f) w r
end Fw
end
-- Fw13
section
set_option Elab.async false
set_option linter.all false
set_option maxRecDepth 100000
set_option maxHeartbeats 4000000
/-! Fw13: statements, rule by rule. -/
namespace Fw
open PySem PySem.Spec PyProof.Rows L2 RZ
/-- a, b = x, y stored through a tuple -/
def swN (Γ : Ctx) (ts vs : List Expr) : Bool :=
  !(ts.length == 2 || ts.length == 3) || vs.length != ts.length || vs.all (foldedForSure 8) ||
  (ts.filterMap fun
    | .Name id pos => if Γ.sc.names.lookup id == some .local && pos.line == (ts.head?.map (·.pos.line)).getD 0 then some id else none
    | _ => none).length != ts.length
theorem sw_none {X : Cx} {Γ : Ctx} (hsc : X.env.scope = Γ.sc) {ts vs : List Expr} {n m : Nat} {p p2 : Pos} (h : swN Γ ts vs = true) : swappedStores [.Tuple ts n p] (.Tuple vs m p2) X.env = pure none := by
  unfold swappedStores
  unfold swN at h
  rw [← hsc] at h
  simp only [Env.kindOf, Bool.or_eq_true] at h ⊢
  rcases h with ((h | h) | h) | h
  · exact if_pos (.inl (.inl h))
  · exact if_pos (.inl (.inr h))
  · split
    · rfl
    · split
      · rfl
      · split
        · rfl
        · first | exact if_pos h | rfl
  · split
    · rfl
    · split
      · rfl
      · exact if_pos (.inl h)
/-- .. or from the right, name by name -/
def swY (Γ : Ctx) (ts vs : List Expr) : Bool := match ts, vs with
  | [.Name x px, .Name y py], [a, b] => (Γ.sc.names.lookup x == some .local) && (Γ.sc.names.lookup y == some .local) && (py.line == px.line) && decide (x ≠ y) && !isStar a && !isStar b && !(foldedForSure 8 a && foldedForSure 8 b) && !(constantsAlone 8 a && constantsAlone 8 b)
  | _, _ => false
theorem sw_some {X : Cx} {Γ : Ctx} (hsc : X.env.scope = Γ.sc) (hk : Γ.sc.kind = .function) {x y : Str} {px py : Pos} {a b : Expr} {n m : Nat} {p p2 : Pos} (h : swY Γ [.Name x px, .Name y py] [a, b] = true) : swappedStores [.Tuple [.Name x px, .Name y py] n p] (.Tuple [a, b] m p2) X.env = pure (some [x, y]) := by
  have h' : ((Γ.sc.names.lookup x == some .local) && (Γ.sc.names.lookup y == some .local) && (py.line == px.line) && decide (x ≠ y) && !isStar a && !isStar b && !(foldedForSure 8 a && foldedForSure 8 b) && !(constantsAlone 8 a && constantsAlone 8 b)) = true := h
  simp only [Bool.and_eq_true] at h'
  obtain ⟨⟨⟨⟨⟨⟨⟨h1, h2⟩, h3⟩, h4⟩, h5⟩, h6⟩, h7⟩, h8⟩ := h'
  have h4 := of_decide_eq_true h4
  have hb : X.env.blockKind = .function := by unfold Env.blockKind; rw [hsc, hk]; rfl
  unfold swappedStores
  rw [← hsc] at h1 h2
  have e3 : py.line = px.line := by simpa using h3
  clear h
  have hs : ∀ z : Expr, isStar z = false → (match z with | .Starred .. => true | _ => false) = false := fun z hz => by cases z <;> first | rfl | cases hz
  have n1 := hs a (by simpa using h5)
  have n2 := hs b (by simpa using h6)
  have hyx : (y == x) = false := beq_eq_false_iff_ne.mpr fun z => h4 z.symm
  have k1 : Env.kindOf X.env x = some .local := by simpa [Env.kindOf] using h1
  have k2 : Env.kindOf X.env y = some .local := by simpa [Env.kindOf] using h2
  have f7 : ([a, b].all (foldedForSure 8)) = false := by
    cases q : foldedForSure 8 a <;> cases q2 : foldedForSure 8 b <;> simp_all
  have f8 : ([a, b].all (constantsAlone 8)) = false := by
    cases q : constantsAlone 8 a <;> cases q2 : constantsAlone 8 b <;> simp_all
  have ed : ([x, y] : List Str).eraseDups = [x, y] := by simp [List.eraseDups_cons, hyx]
  have any_ : ([a, b].any fun z => match z with | .Starred .. => true | _ => false) = false := by
    rw [List.any_cons, List.any_cons, List.any_nil, n1, n2]
    rfl
  refine (if_neg (fun q => ?_)).trans ((if_neg (fun q => ?_)).trans ?_)
  · rw [hb] at q
    exact Bool.false_ne_true q
  · exact absurd (show ([a, b].any fun z => match z with | .Starred .. => true | _ => false) = true from q) (by rw [any_]; decide)
  · have hl : ([Expr.Name x px, Expr.Name y py].filterMap fun
        | .Name id pos => if X.env.kindOf id == some .local && pos.line == (([Expr.Name x px, Expr.Name y py] : List Expr).head?.map (·.pos.line)).getD 0 then some id else none
        | _ => none) = [x, y] := by
      simp [List.filterMap_cons, k1, k2, Expr.pos, e3]
    refine (if_neg (fun q => ?_)).trans ((if_neg (by rw [f7]; decide)).trans ((if_neg (by rw [f8]; decide)).trans ?_))
    · have q' : ((([x, y] : List Str).length != 2) || (([x, y] : List Str).eraseDups.length != ([x, y] : List Str).length)) = true := by rw [← hl]; exact q
      rw [ed] at q'
      exact Bool.false_ne_true q'
    · exact congrArg (fun z => (pure (some z) : Sem (Option (List Str)))) hl
section
variable {X : Cx} {Γ : Ctx} {Φ : Nat → List Dat → M Dat} {k : Nat} {fuel : Nat}
/-- a piece of an expression, then the rest of a statement -/
theorem rs_bind {α : Type} {f : Env → M Dat} {R : Hp → (Addr → Prop) → List Addr → V → Dat → Prop} {K : PySem.W.Frag} {g : Dat → M α} {N0 : Addr → Prop} {μ : List Addr} {st : Store} {ρ : Env} {σ : L2.St} {H : Hp} {P : α → Store → Prop} {Q : VK} (r : SRel K H N0 μ st σ ρ) (p : post (mbind (f ρ) g st) P)
    (h : ∀ d s v H' μ', SEff H μ (ownS σ ρ) H' μ' (ownS σ ρ) → SRel K H' N0 μ' s σ ρ → R H' (NN N0 σ ρ) μ' v d → post (g d s) P → Q v H') : rd K R f σ H Q :=
  rd_bind r.w r.er p fun d s v H' μ' ef w' _ rv q => h d s v H' μ' (ef.sEff r.w w') (r.eff ef w') rv q
theorem rs_bindA {α : Type} {f : Env → M (List Dat)} {R : Hp → (Addr → Prop) → List Addr → V → Dat → Prop} {K : PySem.W.Frag} {g : List Dat → M α} {N0 : Addr → Prop} {μ : List Addr} {st : Store} {ρ : Env} {σ : L2.St} {H : Hp} {P : α → Store → Prop} {Q : List V → Hp → Prop} (r : SRel K H N0 μ st σ ρ) (p : post (mbind (f ρ) g st) P)
    (h : ∀ d s v H' μ', SEff H μ (ownS σ ρ) H' μ' (ownS σ ρ) → SRel K H' N0 μ' s σ ρ → Paired (R H' (NN N0 σ ρ) μ') v d → post (g d s) P → Q v H') : rdA K R f σ H Q :=
  rdA_bind r.w r.er p fun d s v H' μ' ef w' _ rv q => h d s v H' μ' (ef.sEff r.w w') (r.eff ef w') rv q
/-- at the end of a statement -/
theorem sb_nx {K : PySem.W.Frag} {N0 : Addr → Prop} {D : Ends} {H H' : Hp} {μ μ' : List Addr} {O : Addr → Prop} {σ' : L2.St} {ρ' : Env} {s : Store} (h : SB K N0 D H μ O (.nx ρ') s) (e : SEff H μ O H' μ' (ownS σ' ρ')) (r : SRel K H' N0 μ' s σ' ρ') : D.nx σ' H' := h σ' H' μ' e r
theorem p_asg_core {i : Nat} {e : IE} {D : Ends} {σ : L2.St} {H : Hp} (h : rs X.K (exe Φ fuel (.asg i e)) D σ H) : tAsg (rd X.K (RepS X.K) (dens Φ e)) (gName i) D σ H := by
  obtain ⟨N0, μ, st, ρ, r, p⟩ := h
  refine rs_bind r p fun d s v H1 μ1 ef r1 rv p1 => ?_
  obtain ⟨r2, sub⟩ := r1.set (i := i) rv
  exact sb_nx (post_pure p1) (ef.trans (less_eff sub)) r2
theorem p_asg {i : Nat} {x : Str} {e : IE} {v : Expr} {px pos : Pos} (C : CtxOk X Γ Φ k) (h1 : nameAt Γ i x = true) (h2 : locB Γ x = true) (hsw : swapsWith v (some (.Name x px)) pos.line X.env = pure false) (he : PE X v (rdg X.K e (den Φ e))) :
    PS X (.Assign [.Name x px] v pos) (rs X.K (exe Φ fuel (.asg i e))) := by
  obtain ⟨l1, l2⟩ := C.loc h2
  exact PS.imp (ps_set C.nd (C.at h1) l1 (rdg_toS he) hsw l2) fun D σ H h => p_asg_core h
theorem p_asgO {i : Nat} {x : Str} {es : IEs} {xs : List Expr} {px pos p2 : Pos} (C : CtxOk X Γ Φ k) (h1 : nameAt Γ i x = true) (h2 : locB Γ x = true) (he : PA X xs (rdA X.K (RepS X.K) (denA Φ es))) :
    PS X (.Assign [.Name x px] (.List xs p2) pos) (rs X.K (exe Φ fuel (.asgO i es))) := by
  obtain ⟨l1, l2⟩ := C.loc h2
  refine PS.imp (ps_set C.nd (C.at h1) l1 (pe_lst he) rfl l2) fun D σ H ⟨N0, μ, st, ρ, r, p⟩ => ?_
  refine rs_bindA r p fun ds s vs H1 μ1 ef r1 rv p1 => ?_
  have rr := paired_reps rv
  split at p1
  · rename_i hl
    refine ⟨by rw [rr.length]; exact hl.1, fun p hp => ?_⟩
    obtain ⟨r2, e2⟩ := r1.setO hp rr hl.2
    exact sb_nx (post_pure p1) (ef.trans e2) r2
  · exact p1.elim
theorem _root_.L2.PG.or {X : Cx} {e : Expr} {t t' : TG} (h : PG X e t) (h' : PG X e t') : PG X e (fun v σ H Q => t v σ H Q ∨ t' v σ H Q) := ⟨fun pins s σ H v u Q I r q => q.elim (h.run pins s σ H v u Q I r) (h'.run pins s σ H v u Q I r)⟩
theorem p_unp {ts : ITs} {e : IE} {es : List Expr} {v : Expr} {n : Nat} {p pos : Pos} (C : CtxOk X Γ Φ k) (ht : chkTs Γ ts es = true) (hv : isTupE v = false) (he : PE X v (rdg X.K e (den Φ e))) :
    PS X (.Assign [.Tuple es n p] v pos) (rs X.K (exe Φ fuel (.unp ts e))) := by
  obtain ⟨a1, a2⟩ := each_of ht X.env
  have hs : swapsWithSole [.Tuple es n p] v pos.line X.env = pure false := by cases v <;> rfl
  have hw : swappedStores [.Tuple es n p] v X.env = pure none := by cases v <;> first | rfl | cases hv
  refine PS.imp (ps_asg (rdg_toS he) ((pg_tup C.calm (snd_Ts C ts es ht) rfl a1).or (pg_unl C.calm (snd_Ts C ts es ht) rfl a1)) hs hw) fun D σ H ⟨N0, μ, st, ρ, r, q⟩ => ?_
  refine rs_bind r q fun d s v H1 μ1 ef r1 rv p1 => ?_
  cases hu : unpD d with
  | none => rw [hu] at p1; exact (show False from p1).elim
  | some ds =>
    rw [hu] at p1
    have p2 : post ((match bindTs ts ds ρ with
      | some ρ' => mpure (.nx ρ')
      | none => merr : M Fl) s) (SB X.K N0 D H μ (ownS σ ρ)) := p1
    cases hb : bindTs ts ds ρ with
    | none => rw [hb] at p2; exact p2.elim
    | some ρ' =>
      rw [hb] at p2
      have fin : ∀ {vs : List V}, Reps X.K H1 (Fo μ1 (NN N0 σ ρ)) μ1 vs ds → vs.length = (assignEach es X.env).length ∧ gTs X.K ts vs σ H1 (fun σ' H' => D.nx σ' H') := fun {vs} h2 => by
        refine ⟨?_, NN N0 σ ρ, μ1, s, ρ, ds, ρ', r1.w, r1.er, h2, hb, fun σ' er' sa => ?_⟩
        · rw [h2.length, each_len ht X.env]
          exact bindTs_len ht hb
        · obtain ⟨r2, sub⟩ := r1.less er' fun j es q => by
            obtain ⟨q1, q2⟩ := (bindTs_o hb).2 j es q
            exact ⟨q1, sa.2 j q2⟩
          exact sb_nx (post_pure p2) (ef.trans (less_eff sub)) r2
      cases d <;> first | (cases hu; done) | skip
      · cases hu
        obtain ⟨a, vs, rfl, h1, h2⟩ := tup_ofS rv
        exact .inl ⟨a, vs, rfl, h1.sq, fin h2⟩
      · cases hu
        obtain ⟨a, vs, rfl, h1, f, h2⟩ := lst_ofS rv
        exact .inr ⟨a, vs, rfl, SqL.of h1, fin h2⟩
theorem paired_len {R : V → Dat → Prop} : ∀ {vs : List V} {ds : List Dat}, Paired R vs ds → vs.length = ds.length
  | _, _, .nil => rfl
  | _, _, .cons _ t => by rw [List.length_cons, List.length_cons, paired_len t]
/-- a, b = x, y by way of a tuple -/
theorem p_parN {ts : ITs} {es : IEs} {tes ves : List Expr} {n m : Nat} {p p2 pos : Pos} (C : CtxOk X Γ Φ k) (ht : chkTs Γ ts tes = true) (hn : swN Γ tes ves = true) (he : PA X ves (rdA X.K (RepS X.K) (denA Φ es))) (hz : tes.length ≤ 1000) :
    PS X (.Assign [.Tuple tes n p] (.Tuple ves m p2) pos) (rs X.K (exe Φ fuel (.par ts es))) := by
  obtain ⟨a1, a2⟩ := each_of ht X.env
  refine PS.imp (ps_asg (pe_tup he) (pg_tup C.calm (snd_Ts C ts tes ht) rfl a1) rfl (sw_none C.sc hn)) fun D σ H ⟨N0, μ, st, ρ, r, q⟩ => ?_
  refine rs_bindA r q fun ds s vs H1 μ1 ef r1 rv p1 => ?_
  have rr := paired_reps rv
  cases hb : bindTs ts ds ρ with
  | none => rw [hb] at p1; exact p1.elim
  | some ρ' =>
    rw [hb] at p1
    have hl : ds.length = tes.length := bindTs_len ht hb
    refine ⟨by rw [rr.length, hl]; exact Nat.le_of_lt (small1000 hz), fun pp hp => ?_⟩
    have w2 := r1.w.new (o := .tup vs) hp
    have r2 := r1.eff (eff_new (o := .tup vs) hp) w2
    have e2 : SEff H1 μ1 (ownS σ ρ) (upd H1 pp (.tup vs)) μ1 (ownS σ ρ) := (eff_new hp).sEff r1.w w2
    refine ⟨pp, vs, rfl, .inl (.inl upd_same), ?_, NN N0 σ ρ, μ1, s, ρ, ds, ρ', r2.w, r2.er, rr.mo' (eff_new hp).mo, hb, fun σ' er' sa => ?_⟩
    · rw [rr.length, each_len ht X.env]
      exact hl
    · obtain ⟨r3, sub⟩ := r2.less er' fun j es q => by
        obtain ⟨q1, q2⟩ := (bindTs_o hb).2 j es q
        exact ⟨q1, sa.2 j q2⟩
      exact sb_nx (post_pure p1) ((ef.trans e2).trans (less_eff sub)) r3
theorem p_parY {i j : Nat} {es : IEs} {x y : Str} {a b : Expr} {n m : Nat} {px py p p2 pos : Pos} (C : CtxOk X Γ Φ k) (hk : Γ.sc.kind = .function) (h1 : nameAt Γ i x = true) (h2 : nameAt Γ j y = true) (hy : swY Γ [.Name x px, .Name y py] [a, b] = true) (he : PA X [a, b] (rdA X.K (RepS X.K) (denA Φ es))) :
    PS X (.Assign [.Tuple [.Name x px, .Name y py] n p] (.Tuple [a, b] m p2) pos) (rs X.K (exe Φ fuel (.par (.cons (.var i) (.cons (.var j) .nil)) es))) := by
  have sw := sw_some (n := n) (m := m) (p := p) (p2 := p2) C.sc hk hy
  have h' : ((Γ.sc.names.lookup x == some .local) && (Γ.sc.names.lookup y == some .local) && (py.line == px.line) && decide (x ≠ y) && !isStar a && !isStar b && !(foldedForSure 8 a && foldedForSure 8 b) && !(constantsAlone 8 a && constantsAlone 8 b)) = true := hy
  simp only [Bool.and_eq_true] at h'
  obtain ⟨⟨⟨⟨⟨⟨⟨g1, g2⟩, g3⟩, g4⟩, g5⟩, g6⟩, g7⟩, g8⟩ := h'
  have hxy := of_decide_eq_true g4
  have hij : i ≠ j := fun z => by
    subst z
    have e1 := C.at h1
    have e2 := C.at h2
    rw [e1] at e2
    exact hxy (Option.some.inj e2)
  refine PS.imp (ps_par C.calm C.nd (C.at h1) (C.at h2) hij (by rw [C.sc]; simpa using g1) (by rw [C.sc]; simpa using g2) he sw) fun D σ H ⟨N0, μ, st, ρ, r, q⟩ => ?_
  refine rs_bindA r q fun ds s vs H1 μ1 ef r1 rv p1 => ?_
  match ds, p1, rv with
  | [d1, d2], p1, rv =>
    obtain ⟨v, u, rfl, q1, q2⟩ := paired2 rv
    refine ⟨v, u, rfl, ?_⟩
    obtain ⟨r2, sub⟩ := r1.set (i := i) q1
    have q2' : Rep X.K H1 (Fo μ1 (NN N0 (σ.set i (some v)) (ρ.set i (.v d1)))) μ1 u d2 := Rep.mo' q2 (mo_sub fun a h => h.elim .inl fun q => .inr (sub a q))
    obtain ⟨r3, sub2⟩ := r2.set (i := j) q2'
    exact sb_nx (post_pure p1) ((ef.trans (less_eff sub)).trans (less_eff sub2)) r3
  | [], p1, rv => exact (show False from p1).elim
  | [_], p1, rv => exact (show False from p1).elim
  | _ :: _ :: _ :: _, p1, rv => exact (show False from p1).elim
theorem p_ret {e : IE} {v : Expr} {pos : Pos} (he : PE X v (rdg X.K e (den Φ e))) : PS X (.Return (some v) pos) (rs X.K (exe Φ fuel (.ret e))) := by
  refine PS.imp (ps_ret (rdg_toS he)) fun D σ H ⟨N0, μ, st, ρ, r, p⟩ => ?_
  refine rs_bind r p fun d s v H1 μ1 ef r1 rv p1 => ?_
  have hsub : ∀ a, N0 a → NN N0 σ ρ a := fun a h => .inl h
  exact post_pure p1 v H1 μ1 (ef.trans (less_eff fun _ h => h.elim)) (r1.w.subN hsub) (Rep.mo' rv (mo_sub hsub))
theorem p_retn {pos : Pos} : PS X (.Return none pos) (rs X.K (exe Φ fuel .retn)) := by
  refine PS.imp ps_retN fun D σ H ⟨N0, μ, st, ρ, r, p⟩ => ?_
  have hsub : ∀ a, N0 a → NN N0 σ ρ a := fun a h => .inl h
  exact post_pure p .non H μ (less_eff fun _ h => h.elim) (r.w.subN hsub) .non
theorem p_brk {pos : Pos} : PS X (.Break pos) (rs X.K (exe Φ fuel .brk)) := PS.imp ps_break fun D σ H ⟨N0, μ, st, ρ, r, p⟩ => post_pure p σ H μ .refl r
theorem p_cont {pos : Pos} : PS X (.Continue pos) (rs X.K (exe Φ fuel .cont)) := PS.imp ps_continue fun D σ H ⟨N0, μ, st, ρ, r, p⟩ => post_pure p σ H μ .refl r
theorem p_never {s : Stmt} : PS X s (rs X.K (exe Φ fuel .raise)) := ⟨fun pins sh σ H D I ⟨N0, μ, st, ρ, r, p⟩ => (show False from p).elim⟩
theorem p_expr {e : IE} {v : Expr} {pos : Pos} (hc : isComp v = false) (he : PE X v (rdg X.K e (den Φ e))) : PS X (.Expr v pos) (rs X.K (exe Φ fuel (.expr e))) := by
  have hs : swapsWith v none pos.line X.env = pure false := by cases v <;> first | rfl | cases hc
  refine PS.imp (ps_expr (rdg_toW he) hs) fun D σ H ⟨N0, μ, st, ρ, r, p⟩ => ?_
  refine rs_bind r p fun d s v H1 μ1 ef r1 rv p1 => ?_
  exact sb_nx (post_pure p1) ef r1
theorem rdt_rs {c : IE} {α : Type} {g : Bool → M α} {K : PySem.W.Frag} {N0 : Addr → Prop} {μ : List Addr} {st : Store} {ρ : Env} {σ : L2.St} {H : Hp} {P : α → Store → Prop} {Q : Bool → Hp → Prop} (r : SRel K H N0 μ st σ ρ) (p : post (mbind (den Φ c ρ) (fun x => mbind (mo (asBl x)) g) st) P)
    (h : ∀ b s H' μ', SEff H μ (ownS σ ρ) H' μ' (ownS σ ρ) → SRel K H' N0 μ' s σ ρ → post (g b s) P → Q b H') : rdt K (asT (den Φ c)) σ H Q :=
  rdt_bind r.w r.er p fun b s H' μ' ef w' _ q => h b s H' μ' (ef.sEff r.w w') (r.eff ef w') q
theorem p_ife {c : IE} {a b : ISs} {t : Expr} {x y : List Stmt} {pos : Pos} (hc : PT X t (rdt X.K (asT (den Φ c)))) (ha : PSs X x (rs X.K (exes Φ fuel a))) (hb : PSs X y (rs X.K (exes Φ fuel b))) : PS X (.If t x y pos) (rs X.K (exe Φ fuel (.ife c a b))) := by
  refine PS.imp (ps_if hc ha hb) fun D σ H ⟨N0, μ, st, ρ, r, p⟩ => ?_
  refine rdt_rs r p fun kk s H1 μ1 ef r1 p1 => ?_
  cases kk with
  | true =>
    rw [if_pos rfl] at p1 ⊢
    exact ⟨N0, μ1, s, ρ, r1, post_mono p1 fun fl s q => q.eff ef⟩
  | false =>
    rw [if_neg Bool.false_ne_true] at p1 ⊢
    exact ⟨N0, μ1, s, ρ, r1, post_mono p1 fun fl s q => q.eff ef⟩
/-- the store's cell n is changed -/
theorem SRel.setCell {K : PySem.W.Frag} {H : Hp} {N0 : Addr → Prop} {μ : List Addr} {st : Store} {σ : L2.St} {ρ : Env} {n : Nat} {a : Addr} {vs : List V} {ds : List Dat} (r : SRel K H N0 μ st σ ρ) (hn : μ[n]? = some a) (rv : Reps K H (Fo μ (NN N0 σ ρ)) μ vs ds) :
    SRel K (upd H a (.lst vs)) N0 μ (st.set n (.lst ds)) σ ρ ∧ SEff H μ (ownS σ ρ) (upd H a (.lst vs)) μ (ownS σ ρ) := by
  have ha : a ∈ μ := List.mem_of_getElem? hn
  have e : Eff H μ (upd H a (.lst vs)) μ := ⟨fun b o h f => by rw [upd_ne fun z => f (by rw [z]; exact ha)]; exact h, fun _ _ h => h, fun _ h => .inl h⟩
  have w' : WOk K (upd H a (.lst vs)) (NN N0 σ ρ) μ (st.set n (.lst ds)) := by
    refine ⟨by rw [List.length_set]; exact r.w.len, r.w.nd, fun m b c h1 h2 => ?_, r.w.sep, fun b h => ?_⟩
    · by_cases hm : n = m
      · subst hm
        have hl : n < st.length := by rw [← r.w.len]; exact (List.getElem?_eq_some_iff.mp h1).1
        rw [List.getElem?_set_self hl] at h2
        cases h2
        rw [hn] at h1
        cases h1
        exact ⟨vs, upd_same, rv.mo' e.mo⟩
      · rw [List.getElem?_set_ne hm] at h2
        have q := r.w.cell m b c h1 h2
        cases c with
        | lst es =>
          obtain ⟨us, q1, q2⟩ := q
          have hne : b ≠ a := fun z => hm (r.w.nd n m a hn (by rw [← z]; exact h1))
          exact ⟨us, by rw [upd_ne hne]; exact q1, q2.mo' e.mo⟩
    · by_cases z : b = a
      · subst z; rw [upd_same]; exact fun z => nomatch z
      · rw [upd_ne z]; exact r.w.trk b h
  exact ⟨r.eff e w', e.sEff r.w w'⟩
theorem p_app {i : Nat} {e : IE} {x : Str} {v : Expr} {px ap cp pos : Pos} (C : CtxOk X Γ Φ k) (h1 : nameAt Γ i x = true) (h2 : visB Γ x = true) (h3 : okName x = true) (hs : isStar v = false) (hl : (ap.endLine == cp.line) = true) (he : PE X v (rdg X.K e (den Φ e))) :
    PS X (.Expr (.Call (.Attribute (.Name x px) "append" ap) [v] [] cp) pos) (rs X.K (exe Φ fuel (.app i e))) := by
  have hst := star1 hs [] X.env
  refine PS.imp (ps_expr (pe_bm PySem.F.plainAttrs_list PySem.F.slot_list_append PySem.F.type_list_append mt_append (pe_var (C.at h1) (C.vis h2) (okName_of h3).1 (okName_of h3).2) (pa_cons (rdg_toS he) pa_nil hst) rfl (by rw [hst]; rfl) hl hst rfl) rfl) fun D σ H ⟨N0, μ, st, ρ, r, p⟩ => ?_
  have p0 : post (mbind (dens Φ e ρ) (fun d => appSl i d ρ (ρ[i]?)) st) (SB X.K N0 D H μ (ownS σ ρ)) := p
  have no : ∀ {s' : Option Sl}, (∀ d, appSl i d ρ s' = merr) → post (mbind (dens Φ e ρ) (fun d => appSl i d ρ s') st) (SB X.K N0 D H μ (ownS σ ρ)) → False := fun {s'} hs z => by
    have z := post_bind z
    cases q : dens Φ e ρ st with
    | ok x y => rw [q] at z; have z : post (appSl i x ρ s' y) _ := z; rw [hs] at z; exact z
    | exc x y => rw [q] at z; exact z
    | err => rw [q] at z; exact z
  cases eo : ρ[i]? with
  | none => rw [eo] at p0; exact (no (fun _ => rfl) p0).elim
  | some sl =>
    rw [eo] at p0
    cases sl with
    | un => exact (no (fun _ => rfl) p0).elim
    | v d0 =>
      cases d0 <;> first | (exact (no (fun _ => rfl) p0).elim) | skip
      rename_i n
      obtain ⟨v0, q1, q2⟩ := r.er.2 i _ eo
      cases q2 with
      | @ref _ a hm =>
        have hl : n < st.length := by rw [← r.w.len]; exact (List.getElem?_eq_some_iff.mp hm).1
        have hcell := r.w.cell n a _ hm (List.getElem?_eq_getElem hl)
        cases hcl : st[n] with
        | lst ds0 =>
          rw [hcl] at hcell
          obtain ⟨vs0, c1, c2⟩ := hcell
          refine ⟨.ref a, q1, .inl ⟨rfl, vs0, SqL.of c1⟩, ?_⟩
          refine rs_bind r p0 fun d s u H1 μ1 ef r1 rv p1 => ?_
          have hm1 := ef.pre n a hm
          have p1' : post ((match s[n]? with
            | some (.lst ds) => if ds.length < sizeLine then .ok (.nx ρ) (s.set n (.lst (ds ++ [d]))) else .err
            | none => .err : Res Fl)) (SB X.K N0 D H μ (ownS σ ρ)) := p1
          have hl1 : n < s.length := by rw [← r1.w.len]; exact (List.getElem?_eq_some_iff.mp hm1).1
          have hcell1 := r1.w.cell n a _ hm1 (List.getElem?_eq_getElem hl1)
          rw [List.getElem?_eq_getElem hl1] at p1'
          cases hcl1 : s[n] with
          | lst ds =>
            rw [hcl1] at hcell1 p1'
            obtain ⟨vs, c3, c4⟩ := hcell1
            have p2 : post (if ds.length < sizeLine then .ok (.nx ρ) (s.set n (.lst (ds ++ [d]))) else .err : Res Fl) (SB X.K N0 D H μ (ownS σ ρ)) := p1'
            by_cases hlen : ds.length < sizeLine
            · rw [if_pos hlen] at p2
              refine ⟨a, vs, u, rfl, rfl, c3, by rw [c4.length]; exact hlen, ?_⟩
              obtain ⟨r2, e2⟩ := r1.setCell hm1 (c4.append (.cons rv .nil))
              exact sb_nx p2 (ef.trans e2) r2
            · rw [if_neg hlen] at p2
              exact p2.elim
    | o ds =>
      obtain ⟨a, vs, q1, q2, q3, q4⟩ := r.er.2 i _ eo
      refine ⟨.ref a, q1, .inl ⟨rfl, vs, SqL.of q3⟩, ?_⟩
      refine rs_bind r p0 fun d s u H1 μ1 ef r1 rv p1 => ?_
      obtain ⟨a', vs', g1, g2, g3, g4⟩ := r1.er.2 i _ eo
      have e1 : a' = a := by
        rw [q1] at g1
        exact (V.ref.inj (Option.some.inj (Option.some.inj g1))).symm
      subst e1
      have p1' : post ((if ds.length < sizeLine then mpure (.nx (ρ.set i (.o (ds ++ [d])))) else merr : M Fl) s) (SB X.K N0 D H μ (ownS σ ρ)) := p1
      by_cases hlen : ds.length < sizeLine
      · rw [if_pos hlen] at p1'
        refine ⟨a', vs', u, rfl, rfl, g3, by rw [g4.length]; exact hlen, ?_⟩
        obtain ⟨r2, e2⟩ := r1.updO eo g1 (g4.append (.cons rv .nil))
        exact sb_nx (post_pure p1') (ef.trans e2) r2
      · rw [if_neg hlen] at p1'
        exact p1'.elim
theorem p_setix {i : Nat} {kx e : IE} {x : Str} {v ke : Expr} {px sp pos : Pos} (C : CtxOk X Γ Φ k) (h1 : nameAt Γ i x = true) (h2 : visB Γ x = true) (h3 : okName x = true) (hc : isComp v = false) (hsl : isSlice ke = false) (hk : PE X ke (rdg X.K kx (den Φ kx))) (he : PE X v (rdg X.K e (den Φ e))) :
    PS X (.Assign [.Subscript (.Name x px) ke sp] v pos) (rs X.K (exe Φ fuel (.setix i kx e))) := by
  have hs : swapsWithSole [.Subscript (.Name x px) ke sp] v pos.line X.env = pure false := by cases v <;> rfl
  have hw : swappedStores [.Subscript (.Name x px) ke sp] v X.env = pure none := by cases v <;> rfl
  have hsub : ∀ u, assign (.Subscript (.Name x px) ke sp) X.env u = (do
      let ov ← holding [u] (eval (.Name x px) X.env)
      let iv ← holding [u, ov] (eval ke X.env)
      standAt sp
      holding [u, ov, iv] (setItem ov iv u)
      release [u, ov, iv] []) := by
    intro u
    cases ke <;> first | rfl | cases hsl
  refine PS.imp (ps_asg (rdg_toS he) (pg_sub (pe_var (C.at h1) (C.vis h2) (okName_of h3).1 (okName_of h3).2) (rdg_toW hk) set_list hsub) hs hw) fun D σ H ⟨N0, μ, st, ρ, r, p⟩ => ?_
  refine rs_bind r p fun d s u H1 μ1 ef r1 rv p1 => ?_
  have p1' : post (mbind (den Φ kx ρ) (fun y => match slotRef ρ i with
    | some n => setCell n y d ρ
    | none => merr) s) (SB X.K N0 D H μ (ownS σ ρ)) := p1
  cases hr : slotRef ρ i with
  | none =>
    rw [hr] at p1'
    have z := post_bind p1'
    exact absurd z (fun z => by
      cases q : den Φ kx ρ s <;> rw [q] at z <;> exact z)
  | some n =>
    rw [hr] at p1'
    have hn : ρ[i]? = some (.v (.ref n)) := by
      unfold slotRef at hr
      split at hr
      · rename_i m hm
        rw [hm]
        rw [Option.some.inj hr]
      · cases hr
    obtain ⟨v0, q1, q2⟩ := r1.er.2 i _ hn
    refine ⟨v0, q1, ?_⟩
    refine rs_bind r1 p1' fun y s2 yv H2 μ2 ef2 r2 ry p3 => ?_
    obtain ⟨v1, q3, q4⟩ := r2.er.2 i _ hn
    have e1 : v1 = v0 := by rw [q1] at q3; exact (Option.some.inj (Option.some.inj q3)).symm
    subst e1
    have p4 : post (setCell n y d ρ s2) (SB X.K N0 D H μ (ownS σ ρ)) := p3
    unfold setCell at p4
    cases hcs : cellSet n y d s2 with
    | none => rw [hcs] at p4; exact p4.elim
    | some s3 =>
      rw [hcs] at p4
      cases q4 with
      | @ref _ a hm =>
        have hl : n < s2.length := by rw [← r2.w.len]; exact (List.getElem?_eq_some_iff.mp hm).1
        have hcell := r2.w.cell n a _ hm (List.getElem?_eq_getElem hl)
        unfold cellSet at hcs
        split at hcs
        · rename_i kk
          rw [List.getElem?_eq_getElem hl] at hcs
          cases hcl : s2[n] with
          | lst ds =>
            rw [hcl] at hcs hcell
            obtain ⟨vs, c1, c2⟩ := hcell
            obtain ⟨j, hj, rfl⟩ := Option.map_eq_some_iff.mp hcs
            refine ⟨a, vs, kk, j, rfl, repW_int ry, c1, by rw [c2.length]; exact hj, ?_⟩
            have rv2 : Rep X.K H2 (Fo μ2 (NN N0 σ ρ)) μ2 u d := Rep.mo' rv (ef2.mo (N0 := N0))
            obtain ⟨r3, e3⟩ := r2.setCell hm (c2.set j rv2)
            exact sb_nx p4 ((ef.trans ef2).trans e3) r3
        · cases hcs
end
end Fw
end
-- Fw14
section
set_option Elab.async false
set_option linter.all false
set_option maxRecDepth 100000
set_option maxHeartbeats 4000000
/-! Fw14: loops, blocks, defs. -/
namespace Fw
open PySem PySem.Spec PyProof.Rows L2 RZ
section
variable {X : Cx} {Γ : Ctx} {Φ : Nat → List Dat → M Dat} {k : Nat} {fuel : Nat}
theorem p_for {t : IT} {it : II} {b : ISs} {tg iter : Expr} {body : List Stmt} {pos : Pos} (C : CtxOk X Γ Φ k) (hset : isSet iter = false) (hi : PI X tg iter (rdI X.K (denI Φ it))) (hg : PG X tg (gT X.K t)) (hb : PSs X body (rs X.K (exes Φ fuel b))) :
    PS X (.For tg iter body [] pos) (rs X.K (exe Φ fuel (.for_ t it b))) := by
  have hp : PassesOwn (model X.prog X.w) X.A X.env X.xe := by rw [C.xe]; exact PassesOwn.never
  refine PS.imp (ps_for hp C.calm hi hg hb (folded_of hset X.env)) fun D σ H ⟨N0, μ, st, ρ, r, p⟩ => ?_
  refine ⟨NN N0 σ ρ, μ, st, ρ, r.w, r.er, post_mono (post_bind p) fun items s1 p1 J H1 μ1 ef1 w1 iok => ?_⟩
  have r1 := r.eff ef1 w1
  have e1 : SEff H μ (ownS σ ρ) H1 μ1 (ownS σ ρ) := ef1.sEff r.w w1
  obtain ⟨G, Y, walk, hG, hY⟩ := iok
  have body' : ∀ i ρ' s, post (forL (fun ρ => exes Φ fuel b ρ) (bindT t) (items.drop i) ρ' s) (SB X.K N0 D H μ (ownS σ ρ)) → True := fun _ _ _ _ => trivial
  have mo_of : ∀ {Hc : Hp} {μc : List Addr} {σc : L2.St} {ρc : Env}, SEff H1 μ1 (ownS σ ρ) Hc μc (ownS σc ρc) → Mo H1 (Fo μ1 (NN N0 σ ρ)) μ1 Hc (Fo μc (NN N0 σc ρc)) μc := fun e => e.mo
  refine for_it walk (fun i σc Hc => ∃ μc sc ρc, SEff H1 μ1 (ownS σ ρ) Hc μc (ownS σc ρc) ∧ SRel X.K Hc N0 μc sc σc ρc ∧ post (forL (fun ρ => exes Φ fuel b ρ) (bindT t) (items.drop i) ρc sc) (SB X.K N0 D H μ (ownS σ ρ))) ?_ ?_ ?_ ?_
  · exact ⟨μ1, s1, ρ, .refl, r1, p1⟩
  · rintro i σc Hc _ ⟨μc, sc, ρc, e, rc, pc⟩
    exact hG Hc _ μc (mo_of e)
  · rintro i v σc Hc H' hlt ⟨μc, sc, ρc, e, rc, pc⟩ y
    obtain ⟨hH, d, hd, rv⟩ := hY i Hc v H' hlt y _ μc (mo_of e) (fun a h => rc.w.there h)
    have hw : ∃ r' : SRel X.K H' N0 μc sc σc ρc, SEff Hc μc (ownS σc ρc) H' μc (ownS σc ρc) := by
      rcases hH with rfl | ⟨T, xs, hT, rfl⟩
      · exact ⟨rc, .refl⟩
      · have w2 := rc.w.new (o := .tup xs) hT
        exact ⟨rc.eff (eff_new hT) w2, (eff_new hT).sEff rc.w w2⟩
    obtain ⟨r', e'⟩ := hw
    have hdrop : items.drop i = d :: items.drop (i + 1) := by
      have hl := (List.getElem?_eq_some_iff.mp hd).1
      rw [List.drop_eq_getElem_cons hl]
      rw [List.getElem?_eq_getElem hl] at hd
      rw [Option.some.inj hd]
    rw [hdrop] at pc
    have pc1 : post ((match bindT t d ρc with
      | none => merr
      | some ρ' => mbind (exes Φ fuel b ρ') fun f => match f with
        | .nx ρ2 => forL (fun ρ => exes Φ fuel b ρ) (bindT t) (items.drop (i + 1)) ρ2
        | .cont ρ2 => forL (fun ρ => exes Φ fuel b ρ) (bindT t) (items.drop (i + 1)) ρ2
        | .brk ρ2 => mpure (.nx ρ2)
        | .ret d => mpure (.ret d) : M Fl) sc) (SB X.K N0 D H μ (ownS σ ρ)) := pc
    cases hbt : bindT t d ρc with
    | none => rw [hbt] at pc1; exact pc1.elim
    | some ρ' =>
      rw [hbt] at pc1
      refine ⟨NN N0 σc ρc, μc, sc, ρc, d, ρ', r'.w, r'.er, rv, hbt, fun σ2 er2 sa => ?_⟩
      obtain ⟨r2, sub⟩ := r'.less er2 fun j es q => by
        obtain ⟨q1, q2⟩ := (bindT_o hbt).2 j es q
        exact ⟨q1, sa.2 j q2⟩
      have e2 : SEff H1 μ1 (ownS σ ρ) H' μc (ownS σ2 ρ') := (e.trans e').trans (less_eff sub)
      refine ⟨N0, μc, sc, ρ', r2, post_mono (post_bind pc1) fun fl s3 q => ?_⟩
      cases fl with
      | nx ρ3 => exact fun σ3 H3 μ3 e3 r3 => ⟨μ3, s3, ρ3, e2.trans e3, r3, q⟩
      | cont ρ3 => exact fun σ3 H3 μ3 e3 r3 => ⟨μ3, s3, ρ3, e2.trans e3, r3, q⟩
      | brk ρ3 => exact fun σ3 H3 μ3 e3 r3 => post_pure q σ3 H3 μ3 (e1.trans (e2.trans e3)) r3
      | ret d => exact fun v H3 μ3 e3 w3 rv3 => post_pure q v H3 μ3 (e1.trans (e2.trans e3)) w3 rv3
  · rintro σc Hc ⟨μc, sc, ρc, e, rc, pc⟩
    rw [List.drop_length] at pc
    exact post_pure (show post (mpure (Fl.nx ρc) sc) _ from pc) σc Hc μc (e1.trans e) rc
theorem p_whil {c : IE} {b : ISs} {ce : Expr} {body : List Stmt} {pos : Pos} (C : CtxOk X Γ Φ k) (hc : PT X ce (rdt X.K (asT (den Φ c)))) (hb : PSs X body (rs X.K (exes Φ fuel b))) :
    PS X (.While ce body [] pos) (rs X.K (exe Φ fuel (.whil c b))) := by
  have hp : PassesOwn (model X.prog X.w) X.A X.env X.xe := by rw [C.xe]; exact PassesOwn.never
  refine PS.imp (ps_while hp hc hb) fun D σ H ⟨N0, μ, st, ρ, r, p⟩ => ?_
  refine ⟨fun m σc Hc => ∃ μc sc ρc, SEff H μ (ownS σ ρ) Hc μc (ownS σc ρc) ∧ SRel X.K Hc N0 μc sc σc ρc ∧ post (whileL (fun ρ => mbind (den Φ c ρ) fun x => mo (asBl x)) (fun ρ => exes Φ fuel b ρ) m ρc sc) (SB X.K N0 D H μ (ownS σ ρ)), ⟨fuel, μ, st, ρ, .refl, r, p⟩, ?_⟩
  rintro m σc Hc ⟨μc, sc, ρc, e, rc, pc⟩
  cases m with
  | zero => exact (show False from pc).elim
  | succ m =>
    have pc0 : post (mbind (mbind (den Φ c ρc) fun x => mo (asBl x)) (fun k => if k then mbind (exes Φ fuel b ρc) fun f => match f with
      | .nx ρ2 => whileL (fun ρ => mbind (den Φ c ρ) fun x => mo (asBl x)) (fun ρ => exes Φ fuel b ρ) m ρ2
      | .cont ρ2 => whileL (fun ρ => mbind (den Φ c ρ) fun x => mo (asBl x)) (fun ρ => exes Φ fuel b ρ) m ρ2
      | .brk ρ2 => mpure (.nx ρ2)
      | .ret d => mpure (.ret d)
    else mpure (.nx ρc)) sc) (SB X.K N0 D H μ (ownS σ ρ)) := pc
    rw [bindbind] at pc0
    refine rdt_rs rc pc0 fun kk s H1 μ1 ef r1 p1 => ?_
    cases kk with
    | false =>
      rw [if_neg Bool.false_ne_true] at p1 ⊢
      exact post_pure p1 σc H1 μ1 (e.trans ef) r1
    | true =>
      rw [if_pos rfl] at p1 ⊢
      refine ⟨fun σc Hc => ∃ μc sc ρc, SEff H μ (ownS σ ρ) Hc μc (ownS σc ρc) ∧ SRel X.K Hc N0 μc sc σc ρc ∧ post (whileL (fun ρ => mbind (den Φ c ρ) fun x => mo (asBl x)) (fun ρ => exes Φ fuel b ρ) m ρc sc) (SB X.K N0 D H μ (ownS σ ρ)), fun σ' H' q => ⟨m, Nat.lt_succ_self m, q⟩, ?_⟩
      refine ⟨N0, μ1, s, ρc, r1, post_mono (post_bind p1) fun fl s3 q => ?_⟩
      cases fl with
      | nx ρ3 => exact fun σ3 H3 μ3 e3 r3 => ⟨μ3, s3, ρ3, (e.trans ef).trans e3, r3, q⟩
      | cont ρ3 => exact fun σ3 H3 μ3 e3 r3 => ⟨μ3, s3, ρ3, (e.trans ef).trans e3, r3, q⟩
      | brk ρ3 => exact fun σ3 H3 μ3 e3 r3 => post_pure q σ3 H3 μ3 ((e.trans ef).trans e3) r3
      | ret d => exact fun v H3 μ3 e3 w3 rv3 => post_pure q v H3 μ3 ((e.trans ef).trans e3) w3 rv3
/-! blocks -/
theorem b_nil : PSs X [] (rs X.K (exes Φ fuel .nil)) := PSs.imp pss_nil fun D σ H ⟨N0, μ, st, ρ, r, p⟩ => post_pure p σ H μ .refl r
theorem b_cons {a : IS} {b : ISs} {s : Stmt} {ss : List Stmt} (h : PS X s (rs X.K (exe Φ fuel a))) (t : PSs X ss (rs X.K (exes Φ fuel b))) : PSs X (s :: ss) (rs X.K (exes Φ fuel (.cons a b))) := by
  refine PSs.imp (pss_cons h t) fun D σ H ⟨N0, μ, st, ρ, r, p⟩ => ?_
  refine ⟨N0, μ, st, ρ, r, post_mono (post_bind p) fun fl s q => ?_⟩
  cases fl with
  | nx ρ2 => exact fun σ2 H2 μ2 e2 r2 => ⟨N0, μ2, s, ρ2, r2, post_mono q fun fl s q => q.eff e2⟩
  | brk ρ2 => exact post_pure q
  | cont ρ2 => exact post_pure q
  | ret d => exact post_pure q
theorem b_frz {i : Nat} {b : ISs} {ss : List Stmt} (t : PSs X ss (rs X.K (exes Φ fuel b))) : PSs X ss (rs X.K (exes Φ fuel (.frz i b))) := by
  refine PSs.imp t fun D σ H ⟨N0, μ, st, ρ, r, p⟩ => ?_
  have p' : post ((match ρ[i]? with
    | some (.o ds) => exes Φ fuel b (ρ.set i (.v (.lst ds)))
    | _ => merr : M Fl) st) (SB X.K N0 D H μ (ownS σ ρ)) := p
  cases e : ρ[i]? with
  | none => rw [e] at p'; exact p'.elim
  | some sl =>
    rw [e] at p'
    cases sl with
    | un => exact p'.elim
    | v d => exact p'.elim
    | o ds =>
      obtain ⟨r2, sub⟩ := r.frz e
      exact ⟨N0, μ, st, _, r2, post_mono p' fun fl s q => q.eff (less_eff sub)⟩
end
/-! ### the checker of statements -/
def swCond (Γ : Ctx) (x : Str) (px : Pos) (scope : Scope) (pos : Pos) : Bool := (Γ.sc.names.lookup x == some .local) && px.line == pos.line && !(scope.names.any fun (n, k) => n == x && (k == .local || k == .cell))
mutual
def chkS : IS → Ctx → Stmt → Bool
  | .asg i e, Γ, s => match s with
    | .Assign [.Name x _] v _ => nameAt Γ i x && locB Γ x && chk e Γ v
    | _ => false
  | .asgO i es, Γ, s => match s with
    | .Assign [.Name x _] (.List xs _) _ => nameAt Γ i x && locB Γ x && chks es Γ xs
    | _ => false
  | .unp ts e, Γ, s => match s with
    | .Assign [.Tuple es _ _] v _ => chkTs Γ ts es && !isTupE v && chk e Γ v
    | _ => false
  | .par ts es, Γ, s => match s with
    | .Assign [.Tuple tes _ _] (.Tuple ves _ _) _ => chkTs Γ ts tes && chks es Γ ves && decide (tes.length ≤ 1000) && (swN Γ tes ves || (swY Γ tes ves && decide (Γ.sc.kind = .function)))
    | _ => false
  | .ret e, Γ, s => match s with
    | .Return (some v) _ => chk e Γ v
    | _ => false
  | .retn, Γ, s => match s with
    | .Return none _ => true
    | _ => false
  | .ife c a b, Γ, s => match s with
    | .If t x y _ => chk c Γ t && chkB a Γ x && chkB b Γ y
    | _ => false
  | .for_ t it b, Γ, s => match s with
    | .For tg iter body [] _ => chkT Γ t tg && chkI it Γ iter && (isTupE tg || noPair it) && !isSet iter && chkB b Γ body
    | _ => false
  | .whil c b, Γ, s => match s with
    | .While t body [] _ => chk c Γ t && chkB b Γ body
    | _ => false
  | .app i e, Γ, s => match s with
    | .Expr (.Call (.Attribute (.Name x _) m ap) [v] [] cp) _ => decide (m = ("append" : Str)) && nameAt Γ i x && visB Γ x && okName x && !isStar v && (ap.endLine == cp.line) && chk e Γ v
    | _ => false
  | .setix i k e, Γ, s => match s with
    | .Assign [.Subscript (.Name x _) ke _] v _ => nameAt Γ i x && visB Γ x && okName x && !isComp v && !isSlice ke && chk k Γ ke && chk e Γ v
    | _ => false
  | .expr e, Γ, s => match s with
    | .Expr v _ => !isComp v && chk e Γ v
    | _ => false
  | .raise, Γ, s => true
  | .brk, Γ, s => match s with
    | .Break _ => true
    | _ => false
  | .cont, Γ, s => match s with
    | .Continue _ => true
    | _ => false
def chkB : ISs → Ctx → List Stmt → Bool
  | .nil, Γ, ss => match ss with
    | [] => true
    | _ => false
  | .cons a b, Γ, ss => match ss with
    | s :: ss => chkS a Γ s && chkB b Γ ss
    | _ => false
  | .frz _ b, Γ, ss => chkB b Γ ss
end
section
variable {X : Cx} {Γ : Ctx} {Φ : Nat → List Dat → M Dat} {k : Nat} {fuel : Nat}
theorem p_asgAll {i : Nat} {x : Str} {e : IE} {v : Expr} {px pos : Pos} (C : CtxOk X Γ Φ k) (hk : Γ.sc.kind = .function) (h1 : nameAt Γ i x = true) (h2 : locB Γ x = true) (he : chk e Γ v = true) :
    PS X (.Assign [.Name x px] v pos) (rs X.K (exe Φ fuel (.asg i e))) := by
  by_cases hc : isComp v = false
  · exact p_asg C h1 h2 (by cases v <;> first | rfl | cases hc) (snd_E e C v he).pe
  · cases v <;> first | (exact absurd rfl hc) | skip
    · rename_i elt gs scope p2
      have hb : X.env.blockKind = .function := by unfold Env.blockKind; rw [C.sc, hk]; rfl
      by_cases hs : swCond Γ x px scope p2 = true
      · have hs' : ((Γ.sc.names.lookup x == some .local) && px.line == p2.line && !(scope.names.any fun (n, k) => n == x && (k == .local || k == .cell))) = true := hs
        simp only [Bool.and_eq_true] at hs'
        obtain ⟨⟨g1, g2⟩, g3⟩ := hs'
        have sw : swapsWith (.ListComp elt gs scope p2) (some (.Name x px)) pos.line X.env = pure true :=
          sw_true (by rw [C.sc]; exact hk) (by rw [C.sc]; simpa using g1) g2 (by simpa using g3)
        cases e <;> first | (exact absurd he Bool.false_ne_true) | skip
        rename_i own ei t it c
        match gs, he, sw with
        | [⟨tg, iter, ifs, 0⟩], he, sw =>
          have h' : (chkI it Γ iter && (isTupE tg || noPair it) && !isSet iter && blkC Γ.N Γ.sc scope (ownN Γ own) && (slotsT t).all (fun i => own.contains i) && chkT (blk Γ scope) t tg && chks c (blk Γ scope) ifs && chk ei (blk Γ scope) elt) = true := he
          simp only [Bool.and_eq_true] at h'
          obtain ⟨⟨⟨⟨⟨⟨⟨h1', h2'⟩, h3⟩, h4⟩, h5⟩, h6⟩, h7⟩, h8⟩ := h'
          refine PS.imp (s_setComp C h1 (by simpa using g1) sw (snd_I it C tg iter h1' h2') (by simpa using h3) h4 h5 (fun X' C' e => e ▸ snd_T C' t tg h6) (fun X' C' e => e ▸ (snd_L c C' ifs h7).cs) (fun X' C' e => e ▸ rdg_toS (snd_E ei C' elt h8).pe)) fun D σ H h => p_asg_core h
      · have sw : swapsWith (.ListComp elt gs scope p2) (some (.Name x px)) pos.line X.env = pure false := by
          have hs' : swCond Γ x px scope p2 = false := Bool.eq_false_iff.mpr hs
          have kx : X.env.kindOf x = Γ.sc.names.lookup x := by unfold Env.kindOf; rw [C.sc]
          unfold swapsWith
          show (pure (X.env.blockKind == .function && X.env.kindOf x == some .local && px.line == p2.line && !(scope.names.any fun (n, k) => n == x && (k == .local || k == .cell))) : Sem Bool) = pure false
          rw [hb, kx]
          have e0 : ((ScopeKind.function == ScopeKind.function && Γ.sc.names.lookup x == some .local) && px.line == p2.line && !(scope.names.any fun (n, k) => n == x && (k == .local || k == .cell))) = false := by
            rw [show (ScopeKind.function == ScopeKind.function) = true from rfl, Bool.true_and]
            exact hs'
          exact congrArg pure e0
        exact p_asg C h1 h2 sw (snd_E e C _ he).pe
    · cases e <;> exact absurd he Bool.false_ne_true
    · cases e <;> exact absurd he Bool.false_ne_true
mutual
theorem snd_S (C : CtxOk X Γ Φ k) (hk : Γ.sc.kind = .function) : ∀ (i : IS) (s : Stmt), chkS i Γ s = true → PS X s (rs X.K (exe Φ fuel i))
  | .asg i e, s, h => by
    cases s <;> first | (exact absurd h Bool.false_ne_true) | skip
    rename_i ts v pos
    match ts, h with
    | [.Name x px], h =>
      have h' : (nameAt Γ i x && locB Γ x && chk e Γ v) = true := h
      simp only [Bool.and_eq_true] at h'
      exact p_asgAll C hk h'.1.1 h'.1.2 h'.2
  | .asgO i es, s, h => by
    cases s <;> first | (exact absurd h Bool.false_ne_true) | skip
    rename_i ts v pos
    match ts, v, h with
    | [.Name x px], .List xs p2, h =>
      have h' : (nameAt Γ i x && locB Γ x && chks es Γ xs) = true := h
      simp only [Bool.and_eq_true] at h'
      exact p_asgO C h'.1.1 h'.1.2 (snd_L es C xs h'.2).s
  | .unp ts e, s, h => by
    cases s <;> first | (exact absurd h Bool.false_ne_true) | skip
    rename_i tes v pos
    match tes, h with
    | [.Tuple es n p], h =>
      have h' : (chkTs Γ ts es && !isTupE v && chk e Γ v) = true := h
      simp only [Bool.and_eq_true] at h'
      exact p_unp C h'.1.1 (by simpa using h'.1.2) (snd_E e C v h'.2).pe
  | .par ts es, s, h => by
    cases s <;> first | (exact absurd h Bool.false_ne_true) | skip
    rename_i tgs v pos
    match tgs, v, h with
    | [.Tuple tes n p], .Tuple ves m p2, h =>
      have h' : (chkTs Γ ts tes && chks es Γ ves && decide (tes.length ≤ 1000) && (swN Γ tes ves || (swY Γ tes ves && decide (Γ.sc.kind = .function)))) = true := h
      simp only [Bool.and_eq_true] at h'
      obtain ⟨⟨⟨g1, g2⟩, g3⟩, g4⟩ := h'
      have he := (snd_L es C ves g2).s
      rcases Bool.or_eq_true_iff.mp g4 with g4 | g4
      · exact p_parN C g1 g4 he (of_decide_eq_true g3)
      · rw [Bool.and_eq_true] at g4
        match tes, ves, g1, g4, he with
        | [.Name x px, .Name y py], [a, b], g1, g4, he =>
          match ts, g1 with
          | .nil, g1 => exact absurd g1 Bool.false_ne_true
          | .cons (.var i) .nil, g1 => exact absurd (show (_ && false) = true from g1) (by rw [Bool.and_false]; exact Bool.false_ne_true)
          | .cons (.tup _) _, g1 => exact absurd g1 Bool.false_ne_true
          | .cons (.var i) (.cons (.tup _) _), g1 => exact absurd g1 (by simp [chkTs, chkT])
          | .cons (.var i) (.cons (.var j) (.cons _ _)), g1 => exact absurd g1 (by simp [chkTs, chkT])
          | .cons (.var i) (.cons (.var j) .nil), g1 =>
            have q : (!isStar (Expr.Name x px) && (nameAt Γ i x && locB Γ x) && (!isStar (Expr.Name y py) && (nameAt Γ j y && locB Γ y) && true)) = true := g1
            simp only [Bool.and_eq_true] at q
            exact p_parY C hk q.1.2.1 q.2.1.2.1 g4.1 he
  | .ret e, s, h => by
    cases s <;> first | (exact absurd h Bool.false_ne_true) | skip
    rename_i v pos
    cases v <;> first | (exact absurd h Bool.false_ne_true) | skip
    rename_i v
    exact p_ret (snd_E e C v h).pe
  | .retn, s, h => by
    cases s <;> first | (exact absurd h Bool.false_ne_true) | skip
    rename_i v pos
    cases v <;> first | (exact absurd h Bool.false_ne_true) | skip
    exact p_retn
  | .ife c a b, s, h => by
    cases s <;> first | (exact absurd h Bool.false_ne_true) | skip
    rename_i t x y pos
    have h' : (chk c Γ t && chkB a Γ x && chkB b Γ y) = true := h
    simp only [Bool.and_eq_true] at h'
    exact p_ife (snd_E c C t h'.1.1).pt (snd_B C hk a x h'.1.2) (snd_B C hk b y h'.2)
  | .for_ t it b, s, h => by
    cases s <;> first | (exact absurd h Bool.false_ne_true) | skip
    rename_i tg iter body oe pos
    cases oe <;> first | (exact absurd h Bool.false_ne_true) | skip
    have h' : (chkT Γ t tg && chkI it Γ iter && (isTupE tg || noPair it) && !isSet iter && chkB b Γ body) = true := h
    simp only [Bool.and_eq_true] at h'
    exact p_for C (by simpa using h'.1.2) (snd_I it C tg iter h'.1.1.1.2 h'.1.1.2) (snd_T C t tg h'.1.1.1.1) (snd_B C hk b body h'.2)
  | .whil c b, s, h => by
    cases s <;> first | (exact absurd h Bool.false_ne_true) | skip
    rename_i t body oe pos
    cases oe <;> first | (exact absurd h Bool.false_ne_true) | skip
    have h' : (chk c Γ t && chkB b Γ body) = true := h
    simp only [Bool.and_eq_true] at h'
    exact p_whil C (snd_E c C t h'.1).pt (snd_B C hk b body h'.2)
  | .app i e, s, h => by
    cases s <;> first | (exact absurd h Bool.false_ne_true) | skip
    rename_i v pos
    match v, h with
    | .Call (.Attribute (.Name x px) m ap) [v] [] cp, h =>
      have h' : (decide (m = ("append" : Str)) && nameAt Γ i x && visB Γ x && okName x && !isStar v && (ap.endLine == cp.line) && chk e Γ v) = true := h
      simp only [Bool.and_eq_true] at h'
      obtain ⟨⟨⟨⟨⟨⟨g1, g2⟩, g3⟩, g4⟩, g5⟩, g6⟩, g7⟩ := h'
      have e1 := of_decide_eq_true g1
      subst e1
      exact p_app C g2 g3 g4 (by simpa using g5) g6 (snd_E e C v g7).pe
  | .setix i kx e, s, h => by
    cases s <;> first | (exact absurd h Bool.false_ne_true) | skip
    rename_i ts v pos
    match ts, h with
    | [.Subscript (.Name x px) ke sp], h =>
      have h' : (nameAt Γ i x && visB Γ x && okName x && !isComp v && !isSlice ke && chk kx Γ ke && chk e Γ v) = true := h
      simp only [Bool.and_eq_true] at h'
      obtain ⟨⟨⟨⟨⟨⟨g1, g2⟩, g3⟩, g4⟩, g5⟩, g6⟩, g7⟩ := h'
      exact p_setix C g1 g2 g3 (by simpa using g4) (by simpa using g5) (snd_E kx C ke g6).pe (snd_E e C v g7).pe
  | .expr e, s, h => by
    cases s <;> first | (exact absurd h Bool.false_ne_true) | skip
    rename_i v pos
    have h' : (!isComp v && chk e Γ v) = true := h
    simp only [Bool.and_eq_true] at h'
    exact p_expr (by simpa using h'.1) (snd_E e C v h'.2).pe
  | .raise, s, h => p_never
  | .brk, s, h => by
    cases s <;> first | (exact absurd h Bool.false_ne_true) | skip
    exact p_brk
  | .cont, s, h => by
    cases s <;> first | (exact absurd h Bool.false_ne_true) | skip
    exact p_cont
theorem snd_B (C : CtxOk X Γ Φ k) (hk : Γ.sc.kind = .function) : ∀ (b : ISs) (ss : List Stmt), chkB b Γ ss = true → PSs X ss (rs X.K (exes Φ fuel b))
  | .nil, ss, h => by
    cases ss <;> first | (exact absurd h Bool.false_ne_true) | skip
    exact b_nil
  | .cons a b, ss, h => by
    cases ss <;> first | (exact absurd h Bool.false_ne_true) | skip
    rename_i s ss
    have h' : (chkS a Γ s && chkB b Γ ss) = true := h
    rw [Bool.and_eq_true] at h'
    exact b_cons (snd_S C hk a s h'.1) (snd_B C hk b ss h'.2)
  | .frz i b, ss, h => b_frz (snd_B C hk b ss h)
end
end
end Fw
end
-- Fw15
section
set_option Elab.async false
set_option linter.all false
set_option maxRecDepth 100000
set_option maxHeartbeats 4000000
/-! Fw15: functions. -/
namespace Fw
open PySem PySem.Spec PyProof.Rows L2 RZ
section
variable {K : PySem.W.Frag} {H : Hp} {N : Addr → Prop} {μ : List Addr} {st : Store}
def rho0 (n : Nat) (ds : List Dat) : Env := ds.map Sl.v ++ List.replicate (n - ds.length) Sl.un
theorem rho0_own {n : Nat} {ds es : List Dat} {i : Nat} (h : (rho0 n ds)[i]? = some (Sl.o es)) : False := by
  have := List.mem_of_getElem? h
  unfold rho0 at this
  rcases List.mem_append.mp this with q | q
  · obtain ⟨d, _, e⟩ := List.mem_map.mp q
    cases e
  · have := (List.mem_replicate.mp q).2
    cases this
theorem er_start {M : List Str} {vs : List V} {ds : List Dat} (r : Reps K H (Fo μ N) μ vs ds) : ER K H N μ (L2.start M vs) (rho0 M.length ds) := by
  have hl := r.length
  refine ⟨by unfold L2.start rho0; simp [hl], fun i s h => ?_⟩
  unfold rho0 at h
  by_cases hi : i < ds.length
  · rw [List.getElem?_append_left (by simpa using hi), List.getElem?_map] at h
    cases e : ds[i]? with
    | none => rw [e] at h; cases h
    | some d =>
      rw [e] at h
      cases h
      obtain ⟨v, h1, h2⟩ := r.get' e
      refine ⟨v, ?_, h2⟩
      unfold L2.start
      rw [List.getElem?_append_left (by simpa [hl] using hi), List.getElem?_map, h1]
      rfl
  · rw [List.getElem?_append_right (by simpa using Nat.le_of_not_lt hi)] at h
    have e : s = Sl.un := (List.mem_replicate.mp (List.mem_of_getElem? h)).2
    subst e
    exact True.intro
theorem srel_start {M : List Str} {vs : List V} {ds : List Dat} (w : WOk K H N μ st) (r : Reps K H (Fo μ N) μ vs ds) : SRel K H N μ st (L2.start M vs) (rho0 M.length ds) := by
  have no : ∀ a, ¬ ownS (L2.start M vs) (rho0 M.length ds) a := fun a ⟨i, es, h, _⟩ => rho0_own h
  have sub : ∀ a, NN N (L2.start M vs) (rho0 M.length ds) a → N a := fun a h => h.elim id fun q => absurd q (no a)
  refine ⟨w.subN sub, ?_, fun a h => absurd h (no a), fun i j es fs a h => (rho0_own h).elim⟩
  have e := er_start (M := M) r
  refine ⟨e.1, fun i s h => ?_⟩
  have q := e.2 i s h
  cases s with
  | un => exact True.intro
  | v d =>
    obtain ⟨v, q1, q2⟩ := q
    exact ⟨v, q1, q2.mo' (mo_sub sub)⟩
  | o es => exact (rho0_own h).elim
end
structure Base (K : PySem.W.Frag) (mg : Str → Option Value) (gl : List (Str × Dat)) : Prop where
  blt : ∀ x ∈ bltNames, mg x = none
  gl : ∀ x d, gl.lookup x = some d → ∃ v u, mg x = some u ∧ RelV v u ∧ ∀ H F μ, Rep K H F μ v d
def FnsOk (P : Program) (w : World) (K : PySem.W.Frag) (mg : Str → Option Value) (base : Heap) (tab : List Fn) (fuel k : Nat) : Prop :=
  ∀ (f : Nat) (fn : Fn), tab[f]? = some fn → ∃ a fd, mg fn.name = some (.ref a) ∧ PySem.W.keepIn K (.ref a) = true ∧ Binds K fd fn.ps [] ∧ FnOk P w K mg base CX0 k a fd fn.ps (spOf K (Phi tab fuel k f))
def ctxOf (tab : List Fn) (gl : List (Str × Dat)) (fn : Fn) (sc : Scope) : Ctx := ⟨fn.N, sc, fun _ => true, tab, gl⟩
/-- what is known of a def -/
structure DefOk (K : PySem.W.Frag) (mg : Str → Option Value) (tab : List Fn) (gl : List (Str × Dat)) (fn : Fn) : Prop where
  ex : ∃ a fd x qual params body sc, mg fn.name = some (.ref a) ∧ FunD K x qual params body sc [] [] a fd ∧ Binds K fd fn.ps [] ∧ FnScope fn.N fn.ps sc ∧ chkB fn.body (ctxOf tab gl fn sc) body = true
section
variable {P : Program} {w : World} {K : PySem.W.Frag} {mg : Str → Option Value} {base : Heap} {tab : List Fn} {gl : List (Str × Dat)} {fuel : Nat}
theorem fn_step {k : Nat} (B : Base K mg gl) (fns : FnsOk P w K mg base tab fuel k) {fn : Fn} {x qual : Str} {params : Arguments} {body : List Stmt} {sc : Scope} {a : Addr} {fd : FuncData}
    (F : FunD K x qual params body sc [] [] a fd) (S : FnScope fn.N fn.ps sc) (hc : chkB fn.body (ctxOf tab gl fn sc) body = true) :
    FnOk P w K mg base CX0 (k + 1) a fd fn.ps (spOf K (runFn (Phi tab fuel k) fuel fn)) := by
  refine F.ok S (fun vs H Q E h => ?_) (fun cdv A outer s H vs Q E hr h => ?_)
  · obtain ⟨N, μ, st, ds, w, r, p⟩ := h
    unfold runFn at p
    by_cases hl : ds.length = fn.ps.length
    · rw [r.length, hl]
    · rw [if_neg hl] at p
      exact p.elim
  · have C : CtxOk (cxOf CX0 P w K mg base fn.N qual sc a cdv A outer s H E).nox (ctxOf tab gl fn sc) (Phi tab fuel k) k :=
      { N := rfl, nd := S.nd, sc := rfl, calm := rfl, xe := rfl, fn := fun _ _ => rfl, room := hr, fns := fns, blt := B.blt, gl := B.gl }
    refine ⟨_, PSs.nox (snd_B (fuel := fuel) C S.kind fn.body body hc), ?_⟩
    obtain ⟨N, μ, st, ds, w, r, p⟩ := h
    unfold runFn at p
    by_cases hl : ds.length = fn.ps.length
    · rw [if_pos hl] at p
      refine ⟨N, μ, st, rho0 fn.N.length ds, srel_start w r, post_mono (post_bind p) fun fl s q => ?_⟩
      have toE : ∀ {H' : Hp} {μ' : List Addr} {O : Addr → Prop}, SEff H μ (ownS (L2.start fn.N vs) (rho0 fn.N.length ds)) H' μ' O → Eff H μ H' μ' := fun e => ⟨fun a o h f => e.keep a o h f fun ⟨i, es, h, _⟩ => rho0_own h, e.pre, e.new⟩
      cases fl with
      | ret d => exact fun v H' μ' e w' rv => post_pure q v H' μ' (toE e) w' rv
      | nx ρ => exact fun σ' H' μ' e r' => post_pure q .non H' μ' (toE e) (r'.w.subN fun a h => .inl h) .non
      | brk ρ => exact q.elim
      | cont ρ => exact q.elim
    · rw [if_neg hl] at p
      exact p.elim
theorem fns_ok (B : Base K mg gl) (hd : ∀ fn ∈ tab, DefOk K mg tab gl fn) : ∀ k, FnsOk P w K mg base tab fuel k
  | 0, f, fn, h => by
    obtain ⟨a, fd, x, qual, params, body, sc, g1, g2, g3, g4, g5⟩ := (hd fn (List.mem_of_getElem? h)).ex
    exact ⟨a, fd, g1, g2.kp, g3, ⟨fun vs H Q E ⟨N, μ, st, ds, w, r, p⟩ => p.elim, fun A outer s H args us vs Q E hr he hb hv ⟨N, μ, st, ds, w, r, p⟩ => p.elim⟩⟩
  | k + 1, f, fn, h => by
    obtain ⟨a, fd, x, qual, params, body, sc, g1, g2, g3, g4, g5⟩ := (hd fn (List.mem_of_getElem? h)).ex
    refine ⟨a, fd, g1, g2.kp, g3, ?_⟩
    have e : Phi tab fuel (k + 1) f = runFn (Phi tab fuel k) fuel fn := by
      funext ds
      show (match tab[f]? with
        | some fn => runFn (Phi tab fuel k) fuel fn ds
        | none => merr) = _
      rw [h]
    rw [e]
    exact fn_step B (fns_ok B hd k) g2 g4 g5
end
end Fw
end
-- FwM
section
set_option Elab.async false
set_option linter.all false
set_option maxRecDepth 100000
set_option maxHeartbeats 4000000
/-! FwM: the small language reckoned by simp. -/
namespace Fw
open PySem PySem.Spec PyProof.Rows L2
def Res.bd {α β : Type} (r : Res α) (f : α → Store → Res β) : Res β := match r with
  | .ok a s => f a s
  | .exc x s => .exc x s
  | .err => .err
def Res.ofO {α : Type} (o : Option α) (s : Store) : Res α := match o with
  | some a => .ok a s
  | none => .err
def Res.nox {α : Type} (r : Res α) : Res α := match r with
  | .ok a s => .ok a s
  | _ => .err
section
variable {α β : Type} {a b : α} {s st : Store}
@[simp] theorem bd_ok {f : α → Store → Res β} : (Res.ok a s).bd f = f a s := rfl
@[simp] theorem bd_err {f : α → Store → Res β} : (Res.err : Res α).bd f = .err := rfl
@[simp] theorem ofO_some : Res.ofO (some a) s = .ok a s := rfl
@[simp] theorem ofO_none : Res.ofO (none : Option α) s = .err := rfl
@[simp] theorem nox_ok : (Res.ok a s).nox = .ok a s := rfl
@[simp] theorem nox_err : (Res.err : Res α).nox = .err := rfl
theorem mbind_ap (m : M α) (f : α → M β) (st : Store) : mbind m f st = (m st).bd fun a s => f a s := by
  unfold mbind Res.bd; cases m st <;> rfl
theorem mpure_ap : (mpure a : M α) st = .ok a st := rfl
theorem mo_ap (o : Option α) : mo o st = Res.ofO o st := by unfold mo Res.ofO; cases o <;> rfl
theorem mr_ap (o : Store → Option α) : mr o st = Res.ofO (o st) st := by unfold mr Res.ofO; cases o st <;> rfl
theorem mnox_ap (m : M α) : mnox m st = (m st).nox := by unfold mnox Res.nox; cases m st <;> rfl
theorem ite_ap {c : Prop} [Decidable c] (m n : M α) : (if c then m else n) st = if c then m st else n st := by split <;> rfl
@[simp] theorem ite_resD {c : Prop} [Decidable c] {a b : Dat} : (if c then Res.ok a s else Res.ok b s) = Res.ok (if c then a else b) s := by split <;> rfl
@[simp] theorem ite_resB {c : Prop} [Decidable c] {a b : Bool} : (if c then Res.ok a s else Res.ok b s) = Res.ok (if c then a else b) s := by split <;> rfl
@[simp] theorem ite_resO {c : Prop} [Decidable c] {a b : Option Dat} : (if c then Res.ok a s else Res.ok b s) = Res.ok (if c then a else b) s := by split <;> rfl
@[simp] theorem ite_bl {c : Prop} [Decidable c] {p q : Bool} : (if c then Dat.bl p else Dat.bl q) = Dat.bl (if c then p else q) := by split <;> rfl
@[simp] theorem ite_int {c : Prop} [Decidable c] {p q : Int} : (if c then Dat.int p else Dat.int q) = Dat.int (if c then p else q) := by split <;> rfl
end
def slotV (o : Option Sl) (st : Store) : Res Dat := match o with
  | some (.v d) => .ok d st
  | some (.o ds) => .ok (.lst ds) st
  | _ => .err
@[simp] theorem slotV_v {d : Dat} {st : Store} : slotV (some (.v d)) st = .ok d st := rfl
@[simp] theorem slotV_o {ds : List Dat} {st : Store} : slotV (some (.o ds)) st = .ok (.lst ds) st := rfl
section
variable {Φ : Nat → List Dat → M Dat} {ρ : Env} {st : Store} {fuel : Nat}
@[simp] theorem d_var {i : Nat} : den Φ (.var i) ρ st = slotV (ρ[i]?) st := by
  show (match ρ[i]? with
    | some (.v d) => mpure d
    | some (.o ds) => mpure (.lst ds)
    | _ => merr : M Dat) st = _
  unfold slotV
  cases ρ[i]? with
  | none => rfl
  | some s => cases s <;> rfl
@[simp] theorem d_int {i : Int} : den Φ (.int i) ρ st = .ok (.int i) st := rfl
@[simp] theorem d_str {i : Str} : den Φ (.str i) ρ st = .ok (.str i) st := rfl
@[simp] theorem d_bl {i : Bool} : den Φ (.bl i) ρ st = .ok (.bl i) st := rfl
@[simp] theorem d_non : den Φ .non ρ st = .ok .non st := rfl
@[simp] theorem d_glob {x : Str} {d : Dat} : den Φ (.glob x d) ρ st = .ok d st := rfl
@[simp] theorem d_bin {o : Operator} {a b : IE} : den Φ (.bin o a b) ρ st = (den Φ a ρ st).bd fun x s => (den Φ b ρ s).bd fun y s => Res.ofO (opBin o x y) s := by
  simp only [den, mbind_ap, mo_ap]
@[simp] theorem d_neg {a : IE} : den Φ (.neg a) ρ st = (den Φ a ρ st).bd fun x s => Res.ofO ((asInt x).map fun i => .int (-i)) s := by
  simp only [den, mbind_ap, mo_ap]
@[simp] theorem d_cmp {o : CmpOp} {a b : IE} : den Φ (.cmp o a b) ρ st = (den Φ a ρ st).bd fun x s => (den Φ b ρ s).bd fun y s => Res.ofO ((opCmp s o x y).map Dat.bl) s := by
  simp only [den, mbind_ap, mr_ap]
@[simp] theorem d_chain {o o' : CmpOp} {a b c : IE} : den Φ (.chain a o b o' c) ρ st = (den Φ a ρ st).bd fun x s => (den Φ b ρ s).bd fun y s => (Res.ofO (opCmp s o x y) s).bd fun k s =>
    if k then (den Φ c ρ s).bd fun z s => Res.ofO ((opCmp s o' y z).map Dat.bl) s else .ok (.bl false) s := by
  simp only [den, mbind_ap, mr_ap, ite_ap, mpure_ap]
@[simp] theorem d_not {a : IE} : den Φ (.not_ a) ρ st = (den Φ a ρ st).bd fun x s => Res.ofO ((asBl x).map fun b => .bl (!b)) s := by
  simp only [den, mbind_ap, mo_ap]
theorem sd_ap {e : IE} {m : M Dat} : sd e ρ m st = if isOwn e ρ = true then .err else m st := rfl
@[simp] theorem d_ife {a b c : IE} : den Φ (.ife c a b) ρ st = (den Φ c ρ st).bd fun x s => (Res.ofO (asBl x) s).bd fun k s => if k then sd a ρ (den Φ a ρ) s else sd b ρ (den Φ b ρ) s := by
  simp only [den, mbind_ap, mo_ap, ite_ap]
@[simp] theorem d_call {f : Nat} {es : IEs} : den Φ (.call f es) ρ st = (denA Φ es ρ st).bd fun ds s => Φ f ds s := by
  simp only [den, mbind_ap]
@[simp] theorem d_bi {b : Bi} {es : IEs} : den Φ (.bi b es) ρ st = (denW Φ es ρ st).bd fun ds s => Res.ofO (opBi s b ds) s := by
  simp only [den, mbind_ap, mr_ap]
@[simp] theorem d_isi {a : IE} {t : String} : den Φ (.isi a t) ρ st = (den Φ a ρ st).bd fun x s => Res.ofO ((opIsi x t).map Dat.bl) s := by
  simp only [den, mbind_ap, mo_ap]
@[simp] theorem d_ix {a i : IE} : den Φ (.ix a i) ρ st = (den Φ a ρ st).bd fun x s => (den Φ i ρ s).bd fun y s => Res.ofO (opIx s x y) s := by
  simp only [den, mbind_ap, mr_ap]
@[simp] theorem d_sl {a : IE} {lo hi : IO} : den Φ (.sl a lo hi) ρ st = (den Φ a ρ st).bd fun x s => (denO Φ lo ρ s).bd fun l s => (denO Φ hi ρ s).bd fun h s => Res.ofO (opSl s x l h) s := by
  simp only [den, mbind_ap, mr_ap]
def revD (st : Store) : Dat → Option Dat
  | .tup ds => some (.tup ds.reverse)
  | x => (lstOf st x).map fun ds => .lst ds.reverse
@[simp] theorem d_rev {a : IE} : den Φ (.rev a) ρ st = (den Φ a ρ st).bd fun x s => Res.ofO (revD s x) s := by
  simp only [den, mbind_ap, mr_ap]
  rfl
def sized (g : List Dat → Dat) (ds : List Dat) : Option Dat := if ds.length ≤ sizeLine then some (g ds) else none
@[simp] theorem d_tup {es : IEs} : den Φ (.tup es) ρ st = (denA Φ es ρ st).bd fun ds s => Res.ofO (sized Dat.tup ds) s := by
  simp only [den, mbind_ap, mo_ap]
  rfl
@[simp] theorem d_lst {es : IEs} : den Φ (.lst es) ρ st = (denA Φ es ρ st).bd fun ds s => Res.ofO (sized Dat.lst ds) s := by
  simp only [den, mbind_ap, mo_ap]
  rfl
@[simp] theorem d_newl {es : IEs} : den Φ (.newl es) ρ st = (denA Φ es ρ st).bd fun ds s => if ds.length ≤ sizeLine then .ok (.ref s.length) (s ++ [.lst ds]) else .err := by
  simp only [den, mbind_ap]
def compB (Φ : Nat → List Dat → M Dat) (own : List Nat) (elt : IE) (t : IT) (c : IEs) (ρ : Env) (x : Dat) : M (Option Dat) := fun st =>
  (Res.ofO (bindT t x (wipeE ρ own)) st).bd fun ρ' s => (denC Φ c ρ' s).bd fun k s => if k then (sd elt ρ' (den Φ elt ρ') s).bd fun y s => .ok (some y) s else .ok none s
@[simp] theorem d_comp {own : List Nat} {elt : IE} {t : IT} {it : II} {c : IEs} : den Φ (.comp own elt t it c) ρ st = (denI Φ it ρ st).bd fun xs s => ((compL (compB Φ own elt t c ρ) xs s).bd fun ys s => Res.ofO (sized Dat.lst ys) s).nox := by
  have e : (fun x => match bindT t x (wipeE ρ own) with
    | some ρ' => mbind (denC Φ c ρ') fun k => if k then mbind (sd elt ρ' (den Φ elt ρ')) fun y => mpure (some y) else mpure none
    | none => merr : Dat → M (Option Dat)) = compB Φ own elt t c ρ := by
    funext x st
    unfold compB
    cases bindT t x (wipeE ρ own) with
    | none => rfl
    | some ρ' => simp only [mbind_ap, ofO_some, bd_ok, ite_ap, mpure_ap]
  simp only [den, mbind_ap, mnox_ap, mo_ap]
  exact congrArg (fun g => ((denI Φ it ρ st).bd fun xs s => ((compL g xs s).bd fun ys s => Res.ofO (sized Dat.lst ys) s).nox)) e
def ssetD (st : Store) (x : Dat) : Option Dat := match seqOf st x with
  | some ds => match strsOf ds with
    | some zs => if zs.length < 64 then some (.lst ((sortS (dedS zs)).map Dat.str)) else none
    | none => none
  | none => none
@[simp] theorem d_sset {a : IE} : den Φ (.sset a) ρ st = (den Φ a ρ st).bd fun x s => Res.ofO (ssetD s x) s := by
  simp only [den, mbind_ap, mr_ap]
  rfl
@[simp] theorem a_nil : denA Φ .nil ρ st = .ok [] st := rfl
@[simp] theorem a_cons {e : IE} {r : IEs} : denA Φ (.cons e r) ρ st = (sd e ρ (den Φ e ρ) st).bd fun d s => (denA Φ r ρ s).bd fun ds s => .ok (d :: ds) s := by
  simp only [denA, mbind_ap, mpure_ap]
@[simp] theorem w_nil : denW Φ .nil ρ st = .ok [] st := rfl
@[simp] theorem w_cons {e : IE} {r : IEs} : denW Φ (.cons e r) ρ st = (den Φ e ρ st).bd fun d s => (denW Φ r ρ s).bd fun ds s => .ok (d :: ds) s := by
  simp only [denW, mbind_ap, mpure_ap]
@[simp] theorem d_bool {o : BoolOp} {es : IEs} : den Φ (.bool o es) ρ st = denB Φ o es ρ st := rfl
@[simp] theorem b_one {o : BoolOp} {e : IE} : denB Φ o (.cons e .nil) ρ st = (den Φ e ρ st).bd fun d s => Res.ofO ((asBl d).map Dat.bl) s := by
  cases o <;> simp only [denB, mbind_ap, mo_ap]
@[simp] theorem b_and {e e2 : IE} {r : IEs} : denB Φ .And (.cons e (.cons e2 r)) ρ st = (den Φ e ρ st).bd fun d s => (Res.ofO (asBl d) s).bd fun k s => if k then denB Φ .And (.cons e2 r) ρ s else .ok (.bl false) s := by
  simp only [denB, mbind_ap, mo_ap, ite_ap, mpure_ap]
@[simp] theorem b_or {e e2 : IE} {r : IEs} : denB Φ .Or (.cons e (.cons e2 r)) ρ st = (den Φ e ρ st).bd fun d s => (Res.ofO (asBl d) s).bd fun k s => if k then .ok (.bl true) s else denB Φ .Or (.cons e2 r) ρ s := by
  simp only [denB, mbind_ap, mo_ap, ite_ap, mpure_ap]
@[simp] theorem c_nil : denC Φ .nil ρ st = .ok true st := rfl
@[simp] theorem c_one {e : IE} : denC Φ (.cons e .nil) ρ st = (den Φ e ρ st).bd fun d s => Res.ofO (asBl d) s := by
  simp only [denC, mbind_ap, mo_ap]
@[simp] theorem o_no : denO Φ .no ρ st = .ok none st := rfl
@[simp] theorem o_yes {e : IE} : denO Φ (.yes e) ρ st = (den Φ e ρ st).bd fun d s => Res.ofO ((asInt d).map some) s := by
  simp only [denO, mbind_ap, mo_ap]
@[simp] theorem ri_seq {e : IE} : denI Φ (.seq e) ρ st = (sd e ρ (den Φ e ρ) st).bd fun x s => Res.ofO (itemsOf x) s := by
  simp only [denI, mbind_ap, mo_ap]
@[simp] theorem ri_range1 {a : IE} : denI Φ (.range1 a) ρ st = (sd a ρ (den Φ a ρ) st).bd fun x s => Res.ofO (range1Of x) s := by
  simp only [denI, mbind_ap, mo_ap]
@[simp] theorem ri_range2 {a b : IE} : denI Φ (.range2 a b) ρ st = (sd a ρ (den Φ a ρ) st).bd fun x s => (sd b ρ (den Φ b ρ) s).bd fun y s => Res.ofO (range2Of x y) s := by
  simp only [denI, mbind_ap, mo_ap]
@[simp] theorem ri_zip {a b : IE} : denI Φ (.zip a b) ρ st = (sd a ρ (den Φ a ρ) st).bd fun x s => (sd b ρ (den Φ b ρ) s).bd fun y s => Res.ofO (zipOf x y) s := by
  simp only [denI, mbind_ap, mo_ap]
@[simp] theorem ri_enum {a : IE} : denI Φ (.enum a) ρ st = (sd a ρ (den Φ a ρ) st).bd fun x s => Res.ofO (enumOf x) s := by
  simp only [denI, mbind_ap, mo_ap]
/-! statements -/
def Fl.k (f : Fl) (g : Env → M Fl) : M Fl := match f with
  | .nx ρ => g ρ
  | f => mpure f
@[simp] theorem k_nx {g : Env → M Fl} : (Fl.nx ρ).k g st = g ρ st := rfl
@[simp] theorem k_ret {g : Env → M Fl} {d : Dat} : (Fl.ret d).k g st = .ok (.ret d) st := rfl
@[simp] theorem k_brk {g : Env → M Fl} : (Fl.brk ρ).k g st = .ok (.brk ρ) st := rfl
@[simp] theorem k_cont {g : Env → M Fl} : (Fl.cont ρ).k g st = .ok (.cont ρ) st := rfl
@[simp] theorem x_nil : exes Φ fuel .nil ρ st = .ok (.nx ρ) st := rfl
@[simp] theorem x_cons {s : IS} {r : ISs} : exes Φ fuel (.cons s r) ρ st = (exe Φ fuel s ρ st).bd fun f s => f.k (exes Φ fuel r) s := by
  simp only [exes, mbind_ap]
  rfl
@[simp] theorem x_asg {i : Nat} {e : IE} : exe Φ fuel (.asg i e) ρ st = (sd e ρ (den Φ e ρ) st).bd fun d s => .ok (.nx (ρ.set i (.v d))) s := by
  simp only [exe, dens, mbind_ap, mpure_ap]
@[simp] theorem x_ret {e : IE} : exe Φ fuel (.ret e) ρ st = (sd e ρ (den Φ e ρ) st).bd fun d s => .ok (.ret d) s := by
  simp only [exe, dens, mbind_ap, mpure_ap]
@[simp] theorem x_retn : exe Φ fuel .retn ρ st = .ok (.ret .non) st := rfl
@[simp] theorem x_unp {ts : ITs} {e : IE} : exe Φ fuel (.unp ts e) ρ st = (sd e ρ (den Φ e ρ) st).bd fun d s => (Res.ofO (unpD d) s).bd fun ds s => (Res.ofO (bindTs ts ds ρ) s).bd fun ρ' s => .ok (.nx ρ') s := by
  simp only [exe, dens, mbind_ap, mpure_ap]
  congr 1
  funext d s
  cases unpD d with
  | none => rfl
  | some ds => cases hb : bindTs ts ds ρ <;> simp [hb] <;> rfl
@[simp] theorem x_par {ts : ITs} {es : IEs} : exe Φ fuel (.par ts es) ρ st = (denA Φ es ρ st).bd fun ds s => (Res.ofO (bindTs ts ds ρ) s).bd fun ρ' s => .ok (.nx ρ') s := by
  simp only [exe, mbind_ap, mpure_ap]
  congr 1
  funext ds s
  cases hb : bindTs ts ds ρ <;> simp <;> rfl
@[simp] theorem x_ife {c : IE} {a b : ISs} : exe Φ fuel (.ife c a b) ρ st = (den Φ c ρ st).bd fun x s => (Res.ofO (asBl x) s).bd fun k s => if k then exes Φ fuel a ρ s else exes Φ fuel b ρ s := by
  simp only [exe, mbind_ap, mo_ap, ite_ap]
@[simp] theorem x_for {t : IT} {it : II} {b : ISs} : exe Φ fuel (.for_ t it b) ρ st = (denI Φ it ρ st).bd fun xs s => forL (fun ρ => exes Φ fuel b ρ) (bindT t) xs ρ s := by
  simp only [exe, mbind_ap]
@[simp] theorem x_whil {c : IE} {b : ISs} : exe Φ fuel (.whil c b) ρ st = whileL (fun ρ => mbind (den Φ c ρ) fun x => mo (asBl x)) (fun ρ => exes Φ fuel b ρ) fuel ρ st := rfl
@[simp] theorem x_app {i : Nat} {e : IE} : exe Φ fuel (.app i e) ρ st = (sd e ρ (den Φ e ρ) st).bd fun d s => appSl i d ρ (ρ[i]?) s := by
  simp only [exe, dens, mbind_ap]
def setD (ρ : Env) (i : Nat) (y d : Dat) : M Fl := match slotRef ρ i with
  | some n => setCell n y d ρ
  | none => merr
@[simp] theorem x_setix {i : Nat} {k e : IE} : exe Φ fuel (.setix i k e) ρ st = (sd e ρ (den Φ e ρ) st).bd fun d s => (den Φ k ρ s).bd fun y s => setD ρ i y d s := by
  simp only [exe, dens, mbind_ap]
  rfl
@[simp] theorem x_expr {e : IE} : exe Φ fuel (.expr e) ρ st = (den Φ e ρ st).bd fun _ s => .ok (.nx ρ) s := by
  simp only [exe, mbind_ap, mpure_ap]
@[simp] theorem x_brk : exe Φ fuel .brk ρ st = .ok (.brk ρ) st := rfl
@[simp] theorem x_cont : exe Φ fuel .cont ρ st = .ok (.cont ρ) st := rfl
def Fl.out (f : Fl) (st : Store) : Res Dat := match f with
  | .ret d => .ok d st
  | .nx _ => .ok .non st
  | _ => .err
@[simp] theorem out_ret {d : Dat} : (Fl.ret d).out st = .ok d st := rfl
@[simp] theorem out_nx : (Fl.nx ρ).out st = .ok .non st := rfl
theorem run_ap {f : Fn} {ds : List Dat} (h : ds.length = f.ps.length) : runFn Φ fuel f ds st = (exes Φ fuel f.body (ds.map Sl.v ++ List.replicate (f.N.length - ds.length) Sl.un) st).bd Fl.out := by
  unfold runFn
  rw [if_pos h, mbind_ap]
  congr 1
  funext f s
  cases f <;> rfl
theorem phi_ap {tab : List Fn} {k i : Nat} {fn : Fn} {ds : List Dat} (h : tab[i]? = some fn) (hl : ds.length = fn.ps.length) :
    Phi tab fuel (k + 1) i ds st = (exes (Phi tab fuel k) fuel fn.body (ds.map Sl.v ++ List.replicate (fn.N.length - ds.length) Sl.un) st).bd Fl.out := by
  rw [← run_ap hl]
  show (match tab[i]? with
    | some fn => runFn (Phi tab fuel k) fuel fn ds
    | none => merr : M Dat) st = _
  rw [h]
end
/-! sd -/
def slotS (o : Option Sl) (r : Res Dat) : Res Dat := match o with
  | some (.v _) => r
  | _ => .err
@[simp] theorem slotS_v {d : Dat} {r : Res Dat} : slotS (some (.v d)) r = r := rfl
section
variable {ρ : Env} {m : M Dat} {st : Store}
@[simp] theorem sd_var {i : Nat} : sd (.var i) ρ m st = slotS (ρ[i]?) (m st) := by
  show (if (match ρ[i]? with
    | some (.v _) => false
    | _ => true) = true then .err else m st) = _
  unfold slotS
  cases ρ[i]? with
  | none => rfl
  | some s => cases s <;> rfl
@[simp] theorem sd_int {i : Int} : sd (.int i) ρ m st = m st := rfl
@[simp] theorem sd_str {i : Str} : sd (.str i) ρ m st = m st := rfl
@[simp] theorem sd_bl {i : Bool} : sd (.bl i) ρ m st = m st := rfl
@[simp] theorem sd_non  : sd .non ρ m st = m st := rfl
@[simp] theorem sd_glob {x : Str} {d : Dat} : sd (.glob x d) ρ m st = m st := rfl
@[simp] theorem sd_bin {o : Operator} {a b : IE} : sd (.bin o a b) ρ m st = m st := rfl
@[simp] theorem sd_neg {a : IE} : sd (.neg a) ρ m st = m st := rfl
@[simp] theorem sd_cmp {o : CmpOp} {a b : IE} : sd (.cmp o a b) ρ m st = m st := rfl
@[simp] theorem sd_chain {o o2 : CmpOp} {a b c : IE} : sd (.chain a o b o2 c) ρ m st = m st := rfl
@[simp] theorem sd_bool {o : BoolOp} {es : IEs} : sd (.bool o es) ρ m st = m st := rfl
@[simp] theorem sd_not {a : IE} : sd (.not_ a) ρ m st = m st := rfl
@[simp] theorem sd_ife {a b c : IE} : sd (.ife c a b) ρ m st = m st := rfl
@[simp] theorem sd_call {f : Nat} {es : IEs} : sd (.call f es) ρ m st = m st := rfl
@[simp] theorem sd_bi {b : Bi} {es : IEs} : sd (.bi b es) ρ m st = m st := rfl
@[simp] theorem sd_isi {a : IE} {t : String} : sd (.isi a t) ρ m st = m st := rfl
@[simp] theorem sd_ix {a b : IE} : sd (.ix a b) ρ m st = m st := rfl
@[simp] theorem sd_sl {a : IE} {l h : IO} : sd (.sl a l h) ρ m st = m st := rfl
@[simp] theorem sd_rev {a : IE} : sd (.rev a) ρ m st = m st := rfl
@[simp] theorem sd_tup {es : IEs} : sd (.tup es) ρ m st = m st := rfl
@[simp] theorem sd_lst {es : IEs} : sd (.lst es) ρ m st = m st := rfl
@[simp] theorem sd_newl {es : IEs} : sd (.newl es) ρ m st = m st := rfl
@[simp] theorem sd_comp {own : List Nat} {elt : IE} {t : IT} {it : II} {c : IEs} : sd (.comp own elt t it c) ρ m st = m st := rfl
@[simp] theorem sd_sset {a : IE} : sd (.sset a) ρ m st = m st := rfl
end
/-! loops -/
theorem compL_map {g : Dat → M (Option Dat)} {α : Type} {F : α → Dat} {h : α → Option Dat} {st : Store} : ∀ {l : List α}, (∀ p ∈ l, g (F p) st = .ok (h p) st) → compL g (l.map F) st = .ok (l.filterMap h) st
  | [], _ => rfl
  | p :: l, hg => by
    have h1 := hg p List.mem_cons_self
    have h2 := compL_map (l := l) fun q hq => hg q (List.mem_cons_of_mem _ hq)
    rw [List.map_cons]
    simp only [compL, mbind_ap, h1, h2, bd_ok, mpure_ap]
    rw [List.filterMap_cons]
    cases h p <;> rfl
theorem compL_some {g : Dat → M (Option Dat)} {α : Type} {F h : α → Dat} {st : Store} {l : List α} (hg : ∀ p ∈ l, g (F p) st = .ok (some (h p)) st) : compL g (l.map F) st = .ok (l.map h) st := by
  rw [compL_map (h := fun p => some (h p)) hg]
  congr 1
  induction l with
  | nil => rfl
  | cons a l ih => simp
theorem compL_id {g : Dat → M (Option Dat)} {h : Dat → Option Dat} {st : Store} {l : List Dat} (hg : ∀ p ∈ l, g p st = .ok (h p) st) : compL g l st = .ok (l.filterMap h) st := by
  have := compL_map (g := g) (F := id) (h := h) (st := st) (l := l) hg
  rwa [List.map_id] at this
theorem compL_ids {g : Dat → M (Option Dat)} {h : Dat → Dat} {st : Store} {l : List Dat} (hg : ∀ p ∈ l, g p st = .ok (some (h p)) st) : compL g l st = .ok (l.map h) st := by
  have := compL_some (g := g) (F := id) (h := h) (st := st) (l := l) hg
  rwa [List.map_id] at this
end Fw
end
-- FwM2
section
set_option Elab.async false
set_option linter.all false
set_option maxRecDepth 100000
set_option maxHeartbeats 4000000
/-! FwM2: operators reckoned by simp. -/
namespace Fw
open PySem PySem.Spec PyProof.Rows L2
def chD (c : Nat) : Dat := .str ⟨#[c]⟩
def ltS (x y : Str) : Bool := decide (x.cps.toList < y.cps.toList)
section
variable {b : Bool} {i j : Int} {x y : Str} {ds es : List Dat} {n : Nat} {st : Store} {d e : Dat}
@[simp] theorem isi_non : opIsi .non "tuple" = some false ∧ opIsi .non "list" = some false ∧ opIsi .non "str" = some false ∧ opIsi .non "int" = some false ∧ opIsi .non "bool" = some false := ⟨rfl, rfl, rfl, rfl, rfl⟩
@[simp] theorem isi_bl : opIsi (.bl b) "tuple" = some false ∧ opIsi (.bl b) "list" = some false ∧ opIsi (.bl b) "str" = some false ∧ opIsi (.bl b) "int" = some true ∧ opIsi (.bl b) "bool" = some true := ⟨rfl, rfl, rfl, rfl, rfl⟩
@[simp] theorem isi_int : opIsi (.int i) "tuple" = some false ∧ opIsi (.int i) "list" = some false ∧ opIsi (.int i) "str" = some false ∧ opIsi (.int i) "int" = some true ∧ opIsi (.int i) "bool" = some false := ⟨rfl, rfl, rfl, rfl, rfl⟩
@[simp] theorem isi_str : opIsi (.str x) "tuple" = some false ∧ opIsi (.str x) "list" = some false ∧ opIsi (.str x) "str" = some true ∧ opIsi (.str x) "int" = some false ∧ opIsi (.str x) "bool" = some false := ⟨rfl, rfl, rfl, rfl, rfl⟩
@[simp] theorem isi_tup : opIsi (.tup ds) "tuple" = some true ∧ opIsi (.tup ds) "list" = some false ∧ opIsi (.tup ds) "str" = some false ∧ opIsi (.tup ds) "int" = some false ∧ opIsi (.tup ds) "bool" = some false := ⟨rfl, rfl, rfl, rfl, rfl⟩
@[simp] theorem isi_lst : opIsi (.lst ds) "tuple" = some false ∧ opIsi (.lst ds) "list" = some true ∧ opIsi (.lst ds) "str" = some false ∧ opIsi (.lst ds) "int" = some false ∧ opIsi (.lst ds) "bool" = some false := ⟨rfl, rfl, rfl, rfl, rfl⟩
@[simp] theorem asBl_bl : asBl (.bl b) = some b := rfl
@[simp] theorem asInt_int : asInt (.int i) = some i := rfl
@[simp] theorem bin_add_int : opBin .Add (.int i) (.int j) = some (.int (i + j)) := rfl
@[simp] theorem bin_sub_int : opBin .Sub (.int i) (.int j) = some (.int (i - j)) := rfl
theorem bin_mul_int : opBin .Mult (.int i) (.int j) = if (-(2 ^ 64) < i ∧ i < 2 ^ 64) ∨ (-(2 ^ 64) < j ∧ j < 2 ^ 64) then some (.int (i * j)) else none := rfl
theorem bin_div_int : opBin .FloorDiv (.int i) (.int j) = if j ≠ 0 ∧ j.natAbs < 1073741824 then some (.int (i.fdiv j)) else none := rfl
theorem bin_mod_int : opBin .Mod (.int i) (.int j) = if j ≠ 0 then some (.int (i.fmod j)) else none := rfl
@[simp] theorem bin_add_tup : opBin .Add (.tup ds) (.tup es) = if ds.length + es.length ≤ sizeLine then some (.tup (ds ++ es)) else none := rfl
@[simp] theorem bin_add_lst : opBin .Add (.lst ds) (.lst es) = if ds.length + es.length ≤ sizeLine then some (.lst (ds ++ es)) else none := rfl
@[simp] theorem bin_add_str : opBin .Add (.str x) (.str y) = if x.length + y.length ≤ sizeLine then some (.str (x ++ y)) else none := rfl
@[simp] theorem cmp_lt_int : opCmp st .Lt (.int i) (.int j) = some (decide (i < j)) := rfl
@[simp] theorem cmp_le_int : opCmp st .LtE (.int i) (.int j) = some (decide (i ≤ j)) := rfl
@[simp] theorem cmp_gt_int : opCmp st .Gt (.int i) (.int j) = some (decide (j < i)) := rfl
@[simp] theorem cmp_ge_int : opCmp st .GtE (.int i) (.int j) = some (decide (j ≤ i)) := rfl
@[simp] theorem cmp_lt_str : opCmp st .Lt (.str x) (.str y) = some (ltS x y) := rfl
@[simp] theorem cmp_is_non : opCmp st .Is d .non = some (isNon d) := rfl
@[simp] theorem cmp_isnot_non : opCmp st .IsNot d .non = some (!isNon d) := rfl
@[simp] theorem isNon_non : isNon .non = true := rfl
@[simp] theorem isNon_bl : isNon (.bl b) = false := rfl
@[simp] theorem isNon_int : isNon (.int i) = false := rfl
@[simp] theorem isNon_str : isNon (.str x) = false := rfl
@[simp] theorem isNon_tup : isNon (.tup ds) = false := rfl
@[simp] theorem isNon_lst : isNon (.lst ds) = false := rfl
theorem cmp_eq : opCmp st .Eq d e = opEq d e := rfl
theorem cmp_ne : opCmp st .NotEq d e = (opEq d e).map (!·) := rfl
theorem cmp_in : opCmp st .In d e = opIn st d e := rfl
theorem cmp_notin : opCmp st .NotIn d e = (opIn st d e).map (!·) := rfl
theorem eq_bits {f : PyData} : PyData.depth f ≤ 0 ↔ PyData.depth f = 0 := Nat.le_zero
@[simp] theorem eq_int : opEq (.int i) (.int j) = some (i == j) := rfl
@[simp] theorem eq_bl {c : Bool} : opEq (.bl b) (.bl c) = some (b == c) := rfl
@[simp] theorem eq_non : opEq .non .non = some true := rfl
@[simp] theorem len_tup : opBi st .len [.tup ds] = some (.int ds.length) := rfl
@[simp] theorem len_lst : opBi st .len [.lst ds] = some (.int ds.length) := rfl
theorem len_str : opBi st .len [.str x] = if x.length ≤ 16777216 then some (.int x.length) else none := by
  show (if x.length ≤ sizeLine then _ else _) = _
  rw [sizeLine_eq]
@[simp] theorem rb_abs : opBi st .abs [.int i] = some (.int (if i < 0 then -i else i)) := rfl
@[simp] theorem rb_int : opBi st .int [.int i] = some (.int i) := rfl
@[simp] theorem rb_tuple : opBi st .tuple [.lst ds] = some (.tup ds) := rfl
@[simp] theorem rb_tuple_t : opBi st .tuple [.tup ds] = some (.tup ds) := rfl
@[simp] theorem rb_list : opBi st .list [.tup ds] = some (.lst ds) := rfl
@[simp] theorem rb_list_l : opBi st .list [.lst ds] = some (.lst ds) := rfl
@[simp] theorem rb_list_s {ns : List Int} : opBi st .list [.scr ns] = some (.lst (ns.map Dat.int)) := rfl
@[simp] theorem rb_max2 : opBi st .max [.int i, .int j] = some (.int (if j > i then j else i)) := rfl
@[simp] theorem ix_tup : opIx st (.tup ds) (.int i) = atI ds i := rfl
@[simp] theorem ix_lst : opIx st (.lst ds) (.int i) = atI ds i := rfl
theorem ix_str : opIx st (.str x) (.int i) = if x.length ≤ 16777216 then (atI x.cps.toList i).map chD else none := by
  show (if x.length ≤ sizeLine then _ else _) = _
  rw [sizeLine_eq]
  rfl
@[simp] theorem sl_tup {lo hi : Option Int} : opSl st (.tup ds) lo hi = some (.tup (cutD ds lo hi)) := rfl
@[simp] theorem sl_lst {lo hi : Option Int} : opSl st (.lst ds) lo hi = some (.lst (cutD ds lo hi)) := rfl
@[simp] theorem rev_tup : revD st (.tup ds) = some (.tup ds.reverse) := rfl
@[simp] theorem rev_lst : revD st (.lst ds) = some (.lst ds.reverse) := rfl
@[simp] theorem items_tup : itemsOf (.tup ds) = some ds := rfl
@[simp] theorem items_lst : itemsOf (.lst ds) = some ds := rfl
@[simp] theorem items_str : itemsOf (.str x) = some (x.cps.toList.map chD) := rfl
@[simp] theorem zip_tup : zipOf (.tup ds) (.tup es) = some (zipD ds es) := rfl
@[simp] theorem zip_lst : zipOf (.lst ds) (.lst es) = some (zipD ds es) := rfl
@[simp] theorem enum_tup : enumOf (.tup ds) = some (enumD 0 ds) := rfl
@[simp] theorem enum_lst : enumOf (.lst ds) = some (enumD 0 ds) := rfl
@[simp] theorem unp_tup : unpD (.tup ds) = some ds := rfl
@[simp] theorem unp_lst : unpD (.lst ds) = some ds := rfl
@[simp] theorem bT_var : bindT (.var n) d = fun ρ => some (ρ.set n (.v d)) := rfl
@[simp] theorem bT_tup {ts : ITs} {ρ : Env} : bindT (.tup ts) (.tup ds) ρ = bindTs ts ds ρ := rfl
@[simp] theorem bTs_nil {ρ : Env} : bindTs .nil [] ρ = some ρ := rfl
@[simp] theorem bTs_cons {t : IT} {ts : ITs} {ρ : Env} : bindTs (.cons t ts) (d :: ds) ρ = (bindT t d ρ).bind fun ρ' => bindTs ts ds ρ' := by
  show (match bindT t d ρ with
    | some ρ' => bindTs ts ds ρ'
    | none => none) = _
  cases bindT t d ρ <;> rfl
@[simp] theorem szL : sizeLine = 16777216 := sizeLine_eq
@[simp] theorem sized_ok {g : List Dat → Dat} (h : ds.length ≤ 16777216) : sized g ds = some (g ds) := if_pos (by rw [szL]; exact h)
@[simp] theorem wipe_nil {ρ : Env} : wipeE ρ [] = ρ := rfl
@[simp] theorem wipe_cons {ρ : Env} {v : Nat} {vs : List Nat} : wipeE ρ (v :: vs) = (wipeE ρ vs).set v .un := rfl
theorem le_size {n : Nat} (h : n ≤ 1000000) : n ≤ 16777216 := by omega
end
/-! all([..]) of truth values -/
theorem blsOf_map {α : Type} (l : List α) (p : α → Bool) : blsOf (l.map fun a => Dat.bl (p a)) = some (l.map p) := by
  induction l with
  | nil => rfl
  | cons a l ih => simp [blsOf, ih]
theorem rb_all_map {α : Type} {st : Store} (l : List α) (p : α → Bool) : opBi st .all [.lst (l.map fun a => Dat.bl (p a))] = some (.bl (l.all p)) := by
  show (blsOf (l.map fun a => Dat.bl (p a))).map (fun bs => Dat.bl (bs.all id)) = _
  rw [blsOf_map]
  simp [List.all_map]
theorem intsOf_map {α : Type} (l : List α) (p : α → Int) : intsOf (l.map fun a => Dat.int (p a)) = some (l.map p) := by
  induction l with
  | nil => rfl
  | cons a l ih => simp [intsOf, ih]
theorem strsOf_map {α : Type} (l : List α) (p : α → Str) : strsOf (l.map fun a => Dat.str (p a)) = some (l.map p) := by
  induction l with
  | nil => rfl
  | cons a l ih => simp [strsOf, ih]
end Fw
end
-- FwM3
section
set_option Elab.async false
set_option linter.all false
set_option maxRecDepth 100000
set_option maxHeartbeats 4000000
/-! FwM3: lists. -/
namespace Fw
open PySem PySem.Spec PyProof.Rows L2
theorem cut_drop {α : Type} {xs : List α} {i : Int} (h : 0 ≤ i) : cutD xs (some i) none = xs.drop i.toNat := by
  unfold cutD
  show (xs.drop (HT.sIx xs.length 0 (some i))).take (xs.length - HT.sIx xs.length 0 (some i)) = _
  have e : HT.sIx xs.length 0 (some i) = min i.toNat xs.length := by
    show (if i < 0 then (i + (xs.length : Int)).toNat else min i.toNat xs.length) = _
    rw [if_neg (by omega)]
  rw [e]
  rcases Nat.le_total i.toNat xs.length with q | q
  · rw [Nat.min_eq_left q, List.take_of_length_le (by rw [List.length_drop]; exact Nat.le_refl _)]
  · rw [Nat.min_eq_right q, List.drop_of_length_le q, List.drop_of_length_le (Nat.le_refl _), List.take_nil]
theorem cut_take {α : Type} {xs : List α} {i : Int} (h : 0 ≤ i) : cutD xs none (some i) = xs.take i.toNat := by
  unfold cutD
  show (xs.drop 0).take (HT.sIx xs.length xs.length (some i) - 0) = _
  have e : HT.sIx xs.length xs.length (some i) = min i.toNat xs.length := by
    show (if i < 0 then (i + (xs.length : Int)).toNat else min i.toNat xs.length) = _
    rw [if_neg (by omega)]
  rw [e, List.drop_zero, Nat.sub_zero]
  rcases Nat.le_total i.toNat xs.length with q | q
  · rw [Nat.min_eq_left q]
  · rw [Nat.min_eq_right q, List.take_of_length_le q, List.take_of_length_le (Nat.le_refl _)]
@[simp] theorem cut_1 {α : Type} {xs : List α} : cutD xs (some 1) none = xs.tail := by
  rw [cut_drop (by decide)]
  exact List.drop_one
theorem atI_nat {α : Type} {xs : List α} {i : Int} (h : 0 ≤ i) : atI xs i = xs[i.toNat]? := by
  unfold atI ixN
  rw [if_pos h]
  by_cases q : i < (xs.length : Int)
  · rw [if_pos q]; rfl
  · rw [if_neg q, List.getElem?_eq_none (by omega)]; rfl
@[simp] theorem atI_0 {α : Type} {a : α} {xs : List α} : atI (a :: xs) 0 = some a := by rw [atI_nat (by decide)]; rfl
@[simp] theorem atI_1 {α : Type} {a b : α} {xs : List α} : atI (a :: b :: xs) 1 = some b := by rw [atI_nat (by decide)]; rfl
theorem atI_last {α : Type} {a : α} {xs : List α} : atI (xs ++ [a]) (-1) = some a := by
  unfold atI ixN
  rw [if_neg (by decide), if_pos (by simp; omega)]
  have e : (-1 + ((xs ++ [a]).length : Int)).toNat = xs.length := by simp; omega
  rw [e]
  simp
theorem zipD_map {α β : Type} {F : α → Dat} {G : β → Dat} : ∀ {l : List α} {m : List β}, zipD (l.map F) (m.map G) = (l.zip m).map fun p => .tup [F p.1, G p.2]
  | [], _ => rfl
  | _ :: _, [] => rfl
  | a :: l, b :: m => by
    rw [List.map_cons, List.map_cons, List.zip_cons_cons, List.map_cons]
    unfold zipD
    rw [zipD_map (l := l) (m := m)]
theorem enumD_map {α : Type} {F : α → Dat} : ∀ {l : List α} {n : Nat}, enumD n (l.map F) = (l.zipIdx n).map fun p => .tup [.int (p.2 : Nat), F p.1]
  | [], _ => rfl
  | a :: l, n => by
    rw [List.map_cons, List.zipIdx_cons, List.map_cons]
    unfold enumD
    rw [enumD_map (l := l)]
theorem map_tail' {α β : Type} {f : α → β} {l : List α} : (l.map f).tail = l.tail.map f := by cases l <;> rfl
theorem map_drop' {α β : Type} {f : α → β} {l : List α} {n : Nat} : (l.map f).drop n = (l.drop n).map f := (List.map_drop).symm
theorem map_take' {α β : Type} {f : α → β} {l : List α} {n : Nat} : (l.map f).take n = (l.take n).map f := (List.map_take).symm
/-! loops -/
def Fl.lp (f : Fl) (g : Env → M Fl) : M Fl := match f with
  | .nx ρ => g ρ
  | .cont ρ => g ρ
  | .brk ρ => mpure (.nx ρ)
  | .ret d => mpure (.ret d)
section
variable {ρ : Env} {st : Store} {g : Env → M Fl} {d : Dat} {body : Env → M Fl} {tg : Dat → Env → Option Env} {x : Dat} {xs : List Dat}
@[simp] theorem lp_nx : (Fl.nx ρ).lp g st = g ρ st := rfl
@[simp] theorem lp_cont : (Fl.cont ρ).lp g st = g ρ st := rfl
@[simp] theorem lp_brk : (Fl.brk ρ).lp g st = .ok (.nx ρ) st := rfl
@[simp] theorem lp_ret : (Fl.ret d).lp g st = .ok (.ret d) st := rfl
@[simp] theorem forL_nil : forL body tg [] ρ st = .ok (.nx ρ) st := rfl
@[simp] theorem forL_cons : forL body tg (x :: xs) ρ st = (Res.ofO (tg x ρ) st).bd fun ρ' s => (body ρ' s).bd fun f s => f.lp (forL body tg xs) s := by
  show (match tg x ρ with
    | none => merr
    | some ρ' => mbind (body ρ') fun f => match f with
      | .nx ρ2 => forL body tg xs ρ2
      | .cont ρ2 => forL body tg xs ρ2
      | .brk ρ2 => mpure (.nx ρ2)
      | .ret d => mpure (.ret d) : M Fl) st = _
  cases tg x ρ with
  | none => rfl
  | some ρ' =>
    show mbind (body ρ') (fun f => match f with
      | .nx ρ2 => forL body tg xs ρ2
      | .cont ρ2 => forL body tg xs ρ2
      | .brk ρ2 => mpure (.nx ρ2)
      | .ret d => mpure (.ret d)) st = _
    rw [mbind_ap]
    rfl
theorem whileL_succ {c : Env → M Bool} {n : Nat} : whileL c body (n + 1) ρ st = (c ρ st).bd fun k s => if k = true then (body ρ s).bd fun f s => f.lp (whileL c body n) s else .ok (.nx ρ) s := by
  show mbind (c ρ) (fun k => if k then mbind (body ρ) fun f => match f with
      | .nx ρ2 => whileL c body n ρ2
      | .cont ρ2 => whileL c body n ρ2
      | .brk ρ2 => mpure (.nx ρ2)
      | .ret d => mpure (.ret d)
    else mpure (.nx ρ)) st = _
  rw [mbind_ap]
  refine congrArg _ ?_
  funext k s
  rw [ite_ap, mbind_ap]
  rfl
end
/-! x in a tuple or list of texts -/
theorem in_tup_strs {st : Store} {x : Str} {zs : List Str} : opIn st (.str x) (.tup (zs.map Dat.str)) = some (decide (x ∈ zs)) := by
  show (match seqOf st (.tup (zs.map Dat.str)) with
    | some ds => if flatD (.str x) && ds.all flatD then some (ds.any fun z => eqF z (.str x)) else none
    | none => none) = _
  have h1 : (zs.map Dat.str).all flatD = true := by simp [List.all_map, flatD]
  have h2 : ((zs.map Dat.str).any fun z => eqF z (.str x)) = decide (x ∈ zs) := by
    induction zs with
    | nil => rfl
    | cons a l ih =>
      rw [List.map_cons, List.any_cons, ih (by simp [List.all_map, flatD])]
      show ((a == x) || decide (x ∈ l)) = _
      by_cases h : a = x
      · subst h; simp
      · have h' : ¬ x = a := fun z => h z.symm
        simp [h, h']
  show (if flatD (.str x) && (zs.map Dat.str).all flatD then some ((zs.map Dat.str).any fun z => eqF z (.str x)) else none) = _
  rw [h1, h2]
  rfl
theorem in_lst_strs {st : Store} {x : Str} {zs : List Str} : opIn st (.str x) (.lst (zs.map Dat.str)) = some (decide (x ∈ zs)) := (in_tup_strs (st := st) (x := x) (zs := zs))
theorem in_str_one {st : Store} {x : Str} {c : Nat} : opIn st (chD c) (.str x) = some (decide (c ∈ x.cps.toList)) := by
  show some (!(Builtin.Str.occurrences x ⟨#[c]⟩ 0 x.length 1).isEmpty) = _
  rw [PySem.StrLaws.found_one]
end Fw
end
-- K80I
section
set_option Elab.async false
set_option linter.all false
set_option maxRecDepth 100000
set_option maxHeartbeats 4000000
namespace K80
open PySem PySem.Spec PyProof.Rows L2 Fw
def b_is_whole : ISs := (.cons (.ife (.bool .Or (.cons (.not_ (.isi (.var 0) "int")) (.cons (.isi (.var 0) "bool") .nil))) (.cons (.ret (.bl false)) .nil) .nil) (.cons (.ret (.bool .And (.cons (.bool .Or (.cons (.cmp .Is (.var 1) .non) (.cons (.cmp .LtE (.var 1) (.var 0)) .nil))) (.cons (.bool .Or (.cons (.cmp .Is (.var 2) .non) (.cons (.cmp .LtE (.var 0) (.var 2)) .nil))) .nil)))) .nil))
def f_is_whole : Fn := ⟨"is_whole", ["value", "low", "high"], ["value", "low", "high"], b_is_whole⟩
def b_is_tuple_of : ISs := (.cons (.ret (.bool .And (.cons (.isi (.var 0) "tuple") (.cons (.chain (.var 1) .LtE (.bi .len (.cons (.var 0) .nil)) .LtE (.var 2)) .nil)))) .nil)
def f_is_tuple_of : Fn := ⟨"is_tuple_of", ["value", "low", "high"], ["value", "low", "high"], b_is_tuple_of⟩
def b_divisor_of : ISs := (.cons (.par (.cons (.var 0) (.cons (.var 1) .nil)) (.cons (.bi .abs (.cons (.var 0) .nil)) (.cons (.bi .abs (.cons (.var 1) .nil)) .nil))) (.cons (.whil (.cmp .NotEq (.var 1) (.int 0)) (.cons (.par (.cons (.var 0) (.cons (.var 1) .nil)) (.cons (.var 1) (.cons (.bin .Mod (.var 0) (.var 1)) .nil))) .nil)) (.cons (.ret (.var 0)) .nil)))
def f_divisor_of : Fn := ⟨"divisor_of", ["one", "other"], ["one", "other"], b_divisor_of⟩
def b_reduced : ISs := (.cons (.asg 2 (.call 2 (.cons (.var 0) (.cons (.var 1) .nil)))) (.cons (.ife (.cmp .Lt (.var 1) (.int 0)) (.cons (.asg 2 (.neg (.var 2))) .nil) .nil) (.cons (.ret (.tup (.cons (.bin .FloorDiv (.var 0) (.var 2)) (.cons (.bin .FloorDiv (.var 1) (.var 2)) .nil)))) .nil)))
def f_reduced : Fn := ⟨"reduced", ["above", "below"], ["above", "below", "divisor"], b_reduced⟩
def b_added : ISs := (.cons (.ret (.call 3 (.cons (.bin .Add (.bin .Mult (.ix (.var 0) (.int 0)) (.ix (.var 1) (.int 1))) (.bin .Mult (.ix (.var 1) (.int 0)) (.ix (.var 0) (.int 1)))) (.cons (.bin .Mult (.ix (.var 0) (.int 1)) (.ix (.var 1) (.int 1))) .nil)))) .nil)
def f_added : Fn := ⟨"added", ["one", "other"], ["one", "other"], b_added⟩
def b_added_up : ISs := (.cons (.asg 1 (.tup (.cons (.int 0) (.cons (.int 1) .nil)))) (.cons (.for_ (.var 2) (.seq (.var 0)) (.cons (.asg 1 (.call 4 (.cons (.var 1) (.cons (.var 2) .nil)))) .nil)) (.cons (.ret (.var 1)) .nil)))
def f_added_up : Fn := ⟨"added_up", ["parts"], ["parts", "found", "part"], b_added_up⟩
def b_is_rising : ISs := (.cons (.ret (.bi .all (.cons (.comp [1, 2] (.cmp .Lt (.var 1) (.var 2)) (.tup (.cons (.var 1) (.cons (.var 2) .nil))) (.zip (.var 0) (.sl (.var 0) (.yes (.int 1)) .no)) .nil) .nil))) .nil)
def f_is_rising : Fn := ⟨"is_rising", ["things"], ["things", "one", "other"], b_is_rising⟩
def b_is_name : ISs := (.cons (.ife (.bool .Or (.cons (.not_ (.isi (.var 0) "str")) (.cons (.not_ (.chain (.int 1) .LtE (.bi .len (.cons (.var 0) .nil)) .LtE (.glob "SIGNS" (.int 12)))) (.cons (.cmp .NotIn (.ix (.var 0) (.int 0)) (.glob "LETTERS" (.str "abcdefghijklmnopqrstuvwxyz"))) .nil)))) (.cons (.ret (.bl false)) .nil) .nil) (.cons (.ret (.bi .all (.cons (.comp [1] (.bool .Or (.cons (.cmp .In (.var 1) (.glob "LETTERS" (.str "abcdefghijklmnopqrstuvwxyz"))) (.cons (.cmp .In (.var 1) (.str "0123456789")) .nil))) (.var 1) (.seq (.var 0)) .nil) .nil))) .nil))
def f_is_name : Fn := ⟨"is_name", ["value"], ["value", "sign"], b_is_name⟩
def b_is_among : ISs := (.cons (.ret (.bool .And (.cons (.isi (.var 0) "str") (.cons (.cmp .In (.var 0) (.var 1)) .nil)))) .nil)
def f_is_among : Fn := ⟨"is_among", ["value", "names"], ["value", "names"], b_is_among⟩
def b_fits_fields : ISs := (.cons (.ife (.bool .Or (.cons (.not_ (.call 1 (.cons (.var 0) (.cons (.int 1) (.cons (.glob "MOST_FIELDS" (.int 8)) .nil))))) (.cons (.not_ (.bi .all (.cons (.comp [1] (.call 1 (.cons (.var 1) (.cons (.int 2) (.cons (.int 2) .nil)))) (.var 1) (.seq (.var 0)) .nil) .nil))) .nil))) (.cons (.ret (.bl false)) .nil) .nil) (.cons (.ife (.not_ (.bi .all (.cons (.comp [1] (.bool .And (.cons (.call 7 (.cons (.ix (.var 1) (.int 0)) .nil)) (.cons (.call 0 (.cons (.ix (.var 1) (.int 1)) (.cons (.int 1) (.cons (.glob "MOST_DAYS" (.int 12)) .nil)))) .nil))) (.var 1) (.seq (.var 0)) .nil) .nil))) (.cons (.ret (.bl false)) .nil) .nil) (.cons (.ret (.call 6 (.cons (.comp [1] (.ix (.var 1) (.int 0)) (.var 1) (.seq (.var 0)) .nil) .nil))) .nil)))
def f_fits_fields : Fn := ⟨"fits_fields", ["value"], ["value", "pair"], b_fits_fields⟩
def b_need_fields : ISs := (.cons (.ife (.not_ (.call 9 (.cons (.var 0) .nil))) (.cons .raise .nil) .nil) .nil)
def f_need_fields : Fn := ⟨"need_fields", ["fields"], ["fields"], b_need_fields⟩
def b_need_many : ISs := (.cons (.expr (.call 10 (.cons (.var 0) .nil))) (.cons (.ife (.not_ (.call 0 (.cons (.var 1) (.cons (.int 1) (.cons (.glob "MOST_MANY" (.int 3)) .nil))))) (.cons .raise .nil) .nil) .nil))
def f_need_many : Fn := ⟨"need_many", ["fields", "many"], ["fields", "many"], b_need_many⟩
def b_names_of : ISs := (.cons (.ret (.bi .tuple (.cons (.comp [1] (.ix (.var 1) (.int 0)) (.var 1) (.seq (.var 0)) .nil) .nil))) .nil)
def f_names_of : Fn := ⟨"names_of", ["fields"], ["fields", "pair"], b_names_of⟩
def b_fits_day : ISs := (.cons (.ife (.bool .Or (.cons (.not_ (.call 1 (.cons (.var 2) (.cons (.int 0) (.cons (.var 1) .nil))))) (.cons (.not_ (.bi .all (.cons (.comp [3] (.call 8 (.cons (.var 3) (.cons (.call 12 (.cons (.var 0) .nil)) .nil))) (.var 3) (.seq (.var 2)) .nil) .nil))) .nil))) (.cons (.ret (.bl false)) .nil) .nil) (.cons (.ret (.call 6 (.cons (.var 2) .nil))) .nil))
def f_fits_day : Fn := ⟨"fits_day", ["fields", "many", "value"], ["fields", "many", "value", "one"], b_fits_day⟩
def b_fits_round : ISs := (.cons (.ret (.bool .And (.cons (.call 1 (.cons (.var 2) (.cons (.int 1) (.cons (.glob "MOST_ROUND" (.int 2000)) .nil)))) (.cons (.bi .all (.cons (.comp [3] (.call 13 (.cons (.var 0) (.cons (.var 1) (.cons (.var 3) .nil)))) (.var 3) (.seq (.var 2)) .nil) .nil)) .nil)))) .nil)
def f_fits_round : Fn := ⟨"fits_round", ["fields", "many", "value"], ["fields", "many", "value", "day"], b_fits_round⟩
def b_wait_in : ISs := (.cons (.asg 2 (.comp [3, 4] (.var 3) (.tup (.cons (.var 3) (.cons (.var 4) .nil))) (.enum (.var 0)) (.cons (.cmp .In (.var 1) (.var 4)) .nil))) (.cons (.ife (.cmp .Eq (.var 2) (.lst .nil)) (.cons (.ret .non) .nil) .nil) (.cons (.ret (.bi .max (.cons (.comp [3, 5] (.bin .Sub (.bin .Sub (.var 5) (.var 3)) (.int 1)) (.tup (.cons (.var 3) (.cons (.var 5) .nil))) (.zip (.var 2) (.bin .Add (.sl (.var 2) (.yes (.int 1)) .no) (.lst (.cons (.bin .Add (.ix (.var 2) (.int 0)) (.bi .len (.cons (.var 0) .nil))) .nil)))) .nil) .nil))) .nil)))
def f_wait_in : Fn := ⟨"wait_in", ["days", "name"], ["days", "name", "found", "at", "day", "later"], b_wait_in⟩
def b_fits_good : ISs := (.cons (.ife (.not_ (.call 14 (.cons (.var 0) (.cons (.var 1) (.cons (.var 2) .nil))))) (.cons (.ret (.bl false)) .nil) .nil) (.cons (.asg 3 (.comp [4, 5] (.tup (.cons (.call 15 (.cons (.var 2) (.cons (.var 4) .nil))) (.cons (.var 5) .nil))) (.tup (.cons (.var 4) (.cons (.var 5) .nil))) (.seq (.var 0)) .nil)) (.cons (.ret (.bi .all (.cons (.comp [6, 5] (.bool .And (.cons (.cmp .IsNot (.var 6) .non) (.cons (.cmp .Lt (.var 6) (.var 5)) .nil))) (.tup (.cons (.var 6) (.cons (.var 5) .nil))) (.seq (.var 3)) .nil) .nil))) .nil)))
def f_fits_good : Fn := ⟨"fits_good", ["fields", "many", "value"], ["fields", "many", "value", "waits", "name", "days", "wait"], b_fits_good⟩
def b_fits_waits : ISs := (.cons (.ife (.not_ (.call 1 (.cons (.var 1) (.cons (.bi .len (.cons (.var 0) .nil)) (.cons (.bi .len (.cons (.var 0) .nil)) .nil))))) (.cons (.ret (.bl false)) .nil) .nil) (.cons (.ret (.bi .all (.cons (.comp [2, 3] (.call 0 (.cons (.var 2) (.cons (.int 0) (.cons (.bin .Sub (.ix (.var 3) (.int 1)) (.int 1)) .nil)))) (.tup (.cons (.var 2) (.cons (.var 3) .nil))) (.zip (.var 1) (.var 0)) .nil) .nil))) .nil))
def f_fits_waits : Fn := ⟨"fits_waits", ["fields", "value"], ["fields", "value", "wait", "pair"], b_fits_waits⟩
def b_need_waits : ISs := (.cons (.ife (.not_ (.call 17 (.cons (.var 0) (.cons (.var 1) .nil)))) (.cons .raise .nil) .nil) .nil)
def f_need_waits : Fn := ⟨"need_waits", ["fields", "waits"], ["fields", "waits"], b_need_waits⟩
def b_behind : ISs := (.cons (.asg 3 (.bi .tuple (.cons (.comp [4, 5] (.ife (.cmp .In (.ix (.var 5) (.int 0)) (.var 2)) (.int 0) (.bin .Add (.var 4) (.int 1))) (.tup (.cons (.var 4) (.cons (.var 5) .nil))) (.zip (.var 1) (.var 0)) .nil) .nil))) (.cons (.ret (.ife (.bi .all (.cons (.comp [4, 5] (.cmp .Lt (.var 4) (.ix (.var 5) (.int 1))) (.tup (.cons (.var 4) (.cons (.var 5) .nil))) (.zip (.var 3) (.var 0)) .nil) .nil)) (.var 3) .non)) .nil))
def f_behind : Fn := ⟨"behind", ["fields", "waits", "day"], ["fields", "waits", "day", "found", "wait", "pair"], b_behind⟩
def b_are_fields : ISs := (.cons (.ret (.call 9 (.cons (.var 0) .nil))) .nil)
def f_are_fields : Fn := ⟨"are_fields", ["value"], ["value"], b_are_fields⟩
def b_density : ISs := (.cons (.expr (.call 10 (.cons (.var 0) .nil))) (.cons (.ret (.call 5 (.cons (.comp [1, 2] (.tup (.cons (.int 1) (.cons (.var 2) .nil))) (.tup (.cons (.var 1) (.cons (.var 2) .nil))) (.seq (.var 0)) .nil) .nil))) .nil))
def f_density : Fn := ⟨"density", ["fields"], ["fields", "name", "days"], b_density⟩
def b_is_round : ISs := (.cons (.expr (.call 11 (.cons (.var 0) (.cons (.var 1) .nil)))) (.cons (.ret (.call 14 (.cons (.var 0) (.cons (.var 1) (.cons (.var 2) .nil))))) .nil))
def f_is_round : Fn := ⟨"is_round", ["fields", "many", "value"], ["fields", "many", "value"], b_is_round⟩
def b_is_good : ISs := (.cons (.expr (.call 11 (.cons (.var 0) (.cons (.var 1) .nil)))) (.cons (.ret (.call 16 (.cons (.var 0) (.cons (.var 1) (.cons (.var 2) .nil))))) .nil))
def f_is_good : Fn := ⟨"is_good", ["fields", "many", "value"], ["fields", "many", "value"], b_is_good⟩
def b_need_round : ISs := (.cons (.ife (.not_ (.call 14 (.cons (.var 0) (.cons (.var 1) (.cons (.var 2) .nil))))) (.cons .raise .nil) .nil) .nil)
def f_need_round : Fn := ⟨"need_round", ["fields", "many", "days"], ["fields", "many", "days"], b_need_round⟩
def b_longest_wait : ISs := (.cons (.expr (.call 11 (.cons (.var 0) (.cons (.var 1) .nil)))) (.cons (.expr (.call 24 (.cons (.var 0) (.cons (.var 1) (.cons (.var 2) .nil))))) (.cons (.ife (.not_ (.call 8 (.cons (.var 3) (.cons (.call 12 (.cons (.var 0) .nil)) .nil)))) (.cons .raise .nil) .nil) (.cons (.ret (.call 15 (.cons (.var 2) (.cons (.var 3) .nil)))) .nil))))
def f_longest_wait : Fn := ⟨"longest_wait", ["fields", "many", "days", "name"], ["fields", "many", "days", "name"], b_longest_wait⟩
def b_waits_behind : ISs := (.cons (.expr (.call 11 (.cons (.var 0) (.cons (.var 1) .nil)))) (.cons (.expr (.call 18 (.cons (.var 0) (.cons (.var 2) .nil)))) (.cons (.expr (.call 24 (.cons (.var 0) (.cons (.var 1) (.cons (.var 3) .nil))))) (.cons (.for_ (.var 4) (.seq (.var 3)) (.cons (.asg 2 (.call 19 (.cons (.var 0) (.cons (.var 2) (.cons (.var 4) .nil))))) (.cons (.ife (.cmp .Is (.var 2) .non) (.cons (.ret .non) .nil) .nil) .nil))) (.cons (.ret (.var 2)) .nil)))))
def f_waits_behind : Fn := ⟨"waits_behind", ["fields", "many", "waits", "days"], ["fields", "many", "waits", "days", "day"], b_waits_behind⟩
def b__law_cup : ISs := (.cons (.asg 1 (.bi .abs (.cons (.ix (.bin .Add (.bi .list (.cons (.var 0) .nil)) (.lst (.cons (.int 0) .nil))) (.int 0)) .nil))) (.cons (.ret (.newl (.cons (.ife (.cmp .GtE (.var 1) (.bin .Pow (.int 10) (.int 18))) (.bin .FloorDiv (.var 1) (.int 73)) (.int 0)) (.cons (.bin .Add (.bin .Mod (.bi .int (.cons (.bin .Add (.bin .Mult (.var 1) (.int 283)) (.int 3907)) .nil)) (.int 2077503167)) (.int 167)) .nil)))) .nil))
def f__law_cup : Fn := ⟨"_law_cup", ["script"], ["script", "cell"], b__law_cup⟩
def b__law_roll : ISs := (.cons (.ife (.cmp .Gt (.ix (.var 0) (.int 0)) (.int 0)) (.cons (.asg 3 (.bin .Mod (.bi .int (.cons (.ix (.var 0) (.int 0)) .nil)) (.var 1))) (.cons (.setix 0 (.int 0) (.bin .FloorDiv (.ix (.var 0) (.int 0)) (.var 1))) (.cons (.ret (.var 3)) .nil))) .nil) (.cons (.setix 0 (.int 1) (.bin .Mod (.bi .int (.cons (.bin .Add (.bin .Mult (.ix (.var 0) (.int 1)) (.int 31051)) (.int 7993)) .nil)) (.int 2147483543))) (.cons (.asg 2 (.bin .Mod (.bi .int (.cons (.bin .Mult (.ix (.var 0) (.int 1)) (.bin .Add (.ix (.var 0) (.int 1)) (.int 229))) .nil)) (.int 2147483587))) (.cons (.ret (.bin .Mod (.bi .int (.cons (.bin .FloorDiv (.var 2) (.int 821)) .nil)) (.var 1))) .nil))))
def f__law_roll : Fn := ⟨"_law_roll", ["cup", "many"], ["cup", "many", "deep", "found"], b__law_roll⟩
def b__law_some : ISs := (.cons (.ret (.ix (.var 1) (.call 28 (.cons (.var 0) (.cons (.bi .len (.cons (.var 1) .nil)) .nil))))) .nil)
def f__law_some : Fn := ⟨"_law_some", ["cup", "things"], ["cup", "things"], b__law_some⟩
def b__law_sort : ISs := (.cons (.ife (.bool .Or (.cons (.cmp .Is (.var 0) .non) (.cons (.isi (.var 0) "bool") .nil))) (.cons (.ret (.ife (.cmp .Is (.var 0) .non) (.int 0) (.int 1))) .nil) .nil) (.cons (.ife (.bool .Or (.cons (.isi (.var 0) "int") (.cons (.isi (.var 0) "str") .nil))) (.cons (.ret (.ife (.isi (.var 0) "int") (.int 2) (.int 3))) .nil) .nil) (.cons (.ret (.ife (.isi (.var 0) "tuple") (.int 4) (.ife (.isi (.var 0) "list") (.int 5) (.int 6)))) .nil)))
def f__law_sort : Fn := ⟨"_law_sort", ["value"], ["value"], b__law_sort⟩
def b__law_like : ISs := (.cons (.asg 2 (.call 30 (.cons (.var 1) .nil))) (.cons (.ife (.bool .Or (.cons (.cmp .NotEq (.call 30 (.cons (.var 0) .nil)) (.var 2)) (.cons (.cmp .Eq (.var 2) (.int 6)) .nil))) (.cons (.ret (.bl false)) .nil) .nil) (.cons (.ife (.cmp .In (.var 2) (.tup (.cons (.int 4) (.cons (.int 5) .nil)))) (.cons (.ret (.bool .And (.cons (.cmp .Eq (.bi .len (.cons (.var 0) .nil)) (.bi .len (.cons (.var 1) .nil))) (.cons (.cmp .Eq (.comp [3, 4] (.int 1) (.tup (.cons (.var 3) (.cons (.var 4) .nil))) (.zip (.var 0) (.var 1)) (.cons (.not_ (.call 31 (.cons (.var 3) (.cons (.var 4) .nil)))) .nil)) (.lst .nil)) .nil)))) .nil) .nil) (.cons (.ret (.cmp .Eq (.var 0) (.var 1))) .nil))))
def f__law_like : Fn := ⟨"_law_like", ["one", "other"], ["one", "other", "sort", "first", "second"], b__law_like⟩
def b__law_name : ISs := (.cons (.par (.cons (.var 3) (.cons (.var 4) .nil)) (.cons (.str "abcdefghijklmnopqrstuvwxyz") (.cons (.str "0123456789") .nil))) (.cons (.for_ (.var 2) (.range1 (.int 3)) (.cons (.asg 5 (.call 29 (.cons (.var 0) (.cons (.var 3) .nil)))) (.cons (.for_ (.var 6) (.range1 (.call 29 (.cons (.var 0) (.cons (.lst (.cons (.int 0) (.cons (.int 0) (.cons (.int 0) (.cons (.int 1) (.cons (.int 2) (.cons (.int 11) .nil))))))) .nil)))) (.cons (.asg 5 (.bin .Add (.var 5) (.call 29 (.cons (.var 0) (.cons (.bin .Add (.var 3) (.var 4)) .nil))))) .nil)) (.cons (.ife (.cmp .NotIn (.var 5) (.var 1)) (.cons (.ret (.var 5)) .nil) .nil) .nil)))) (.cons (.ret (.ix (.comp [5] (.var 5) (.var 5) (.seq (.comp [7] (.bin .Add (.str "n") (.bi .str (.cons (.var 7) .nil))) (.var 7) (.range1 (.int 70)) .nil)) (.cons (.cmp .NotIn (.var 5) (.var 1)) .nil)) (.int 0))) .nil)))
def f__law_name : Fn := ⟨"_law_name", ["cup", "taken"], ["cup", "taken", "turn", "letters", "digits", "name", "more", "number"], b__law_name⟩
def b__law_names : ISs := (.cons (.asg 2 (.newl .nil)) (.cons (.for_ (.var 3) (.range1 (.var 1)) (.cons (.app 2 (.call 32 (.cons (.var 0) (.cons (.var 2) .nil)))) .nil)) (.cons (.ret (.bi .sorted (.cons (.var 2) .nil))) .nil)))
def f__law_names : Fn := ⟨"_law_names", ["cup", "many"], ["cup", "many", "found", "turn"], b__law_names⟩
def b__law_fields : ISs := (.cons (.ret (.bi .tuple (.cons (.comp [3] (.tup (.cons (.var 3) (.cons (.bin .Add (.int 1) (.call 28 (.cons (.var 0) (.cons (.var 2) .nil)))) .nil))) (.var 3) (.seq (.call 33 (.cons (.var 0) (.cons (.bin .Add (.int 1) (.call 28 (.cons (.var 0) (.cons (.var 1) .nil)))) .nil)))) .nil) .nil))) .nil)
def f__law_fields : Fn := ⟨"_law_fields", ["cup", "most", "days"], ["cup", "most", "days", "name"], b__law_fields⟩
def b__law_least : ISs := (.cons (.par (.cons (.var 3) (.cons (.var 4) .nil)) (.cons (.bi .abs (.cons (.var 0) .nil)) (.cons (.bi .abs (.cons (.var 1) .nil)) .nil))) (.cons (.whil (.cmp .NotEq (.var 4) (.int 0)) (.cons (.par (.cons (.var 3) (.cons (.var 4) .nil)) (.cons (.var 4) (.cons (.bin .Mod (.bi .int (.cons (.var 3) .nil)) (.var 4)) .nil))) .nil)) (.cons (.asg 2 (.ife (.cmp .Lt (.var 1) (.int 0)) (.neg (.int 1)) (.int 1))) (.cons (.ret (.tup (.cons (.bin .FloorDiv (.bin .Mult (.var 2) (.var 0)) (.var 3)) (.cons (.bin .FloorDiv (.bin .Mult (.var 2) (.var 1)) (.var 3)) .nil)))) .nil))))
def f__law_least : Fn := ⟨"_law_least", ["above", "below"], ["above", "below", "sign", "one", "other"], b__law_least⟩
def b__law_behind : ISs := (.cons (.asg 3 (.tup .nil)) (.cons (.for_ (.tup (.cons (.tup (.cons (.var 5) (.cons (.var 6) .nil))) (.cons (.var 4) .nil))) (.zip (.var 0) (.var 1)) (.cons (.asg 3 (.bin .Add (.var 3) (.tup (.cons (.ife (.cmp .In (.var 5) (.var 2)) (.int 0) (.bin .Add (.var 4) (.int 1))) .nil)))) (.cons (.ife (.cmp .Eq (.ix (.var 3) (.neg (.int 1))) (.var 6)) (.cons (.ret .non) .nil) .nil) .nil))) (.cons (.ret (.var 3)) .nil)))
def f__law_behind : Fn := ⟨"_law_behind", ["fields", "waits", "day"], ["fields", "waits", "day", "found", "wait", "name", "days"], b__law_behind⟩
def b__law_are_fields : ISs := (.cons (.ife (.bool .Or (.cons (.not_ (.isi (.var 0) "tuple")) (.cons (.not_ (.chain (.int 1) .LtE (.bi .len (.cons (.var 0) .nil)) .LtE (.int 8))) (.cons (.cmp .NotEq (.comp [4] (.var 4) (.var 4) (.seq (.var 0)) (.cons (.bool .Or (.cons (.not_ (.isi (.var 4) "tuple")) (.cons (.cmp .NotEq (.bi .len (.cons (.var 4) .nil)) (.int 2)) .nil))) .nil)) (.lst .nil)) .nil)))) (.cons (.ret (.bl false)) .nil) .nil) (.cons (.for_ (.tup (.cons (.var 2) (.cons (.var 3) .nil))) (.seq (.var 0)) (.cons (.ife (.bool .Or (.cons (.cmp .NotEq (.call 30 (.cons (.var 2) .nil)) (.int 3)) (.cons (.not_ (.chain (.int 1) .LtE (.bi .len (.cons (.var 2) .nil)) .LtE (.int 12))) (.cons (.cmp .NotIn (.ix (.var 2) (.int 0)) (.str "abcdefghijklmnopqrstuvwxyz")) .nil)))) (.cons (.ret (.bl false)) .nil) .nil) (.cons (.ife (.bool .Or (.cons (.cmp .NotEq (.comp [5] (.var 5) (.var 5) (.seq (.var 2)) (.cons (.cmp .NotIn (.var 5) (.str "abcdefghijklmnopqrstuvwxyz0123456789")) .nil)) (.lst .nil)) (.cons (.cmp .NotEq (.call 30 (.cons (.var 3) .nil)) (.int 2)) (.cons (.not_ (.chain (.int 1) .LtE (.var 3) .LtE (.int 12))) .nil)))) (.cons (.ret (.bl false)) .nil) .nil) .nil))) (.cons (.asg 1 (.comp [4] (.ix (.var 4) (.int 0)) (.var 4) (.seq (.var 0)) .nil)) (.cons (.ret (.cmp .Eq (.var 1) (.sset (.var 1)))) .nil))))
def f__law_are_fields : Fn := ⟨"_law_are_fields", ["value"], ["value", "names", "name", "days", "pair", "sign"], b__law_are_fields⟩
def b__law_is_round : ISs := (.cons (.ife (.bool .Or (.cons (.not_ (.isi (.var 2) "tuple")) (.cons (.not_ (.chain (.int 1) .LtE (.bi .len (.cons (.var 2) .nil)) .LtE (.int 2000))) .nil))) (.cons (.ret (.bl false)) .nil) .nil) (.cons (.asg 3 (.comp [5] (.ix (.var 5) (.int 0)) (.var 5) (.seq (.var 0)) .nil)) (.cons (.for_ (.var 4) (.seq (.var 2)) (.cons (.ife (.bool .Or (.cons (.not_ (.isi (.var 4) "tuple")) (.cons (.cmp .Gt (.bi .len (.cons (.var 4) .nil)) (.var 1)) (.cons (.cmp .NotEq (.comp [6] (.var 6) (.var 6) (.seq (.var 4)) (.cons (.bool .Or (.cons (.cmp .NotEq (.call 30 (.cons (.var 6) .nil)) (.int 3)) (.cons (.cmp .NotIn (.var 6) (.var 3)) .nil))) .nil)) (.lst .nil)) .nil)))) (.cons (.ret (.bl false)) .nil) .nil) (.cons (.ife (.cmp .NotEq (.bi .list (.cons (.var 4) .nil)) (.sset (.var 4))) (.cons (.ret (.bl false)) .nil) .nil) .nil))) (.cons (.ret (.bl true)) .nil))))
def f__law_is_round : Fn := ⟨"_law_is_round", ["fields", "many", "value"], ["fields", "many", "value", "names", "day", "pair", "one"], b__law_is_round⟩
def b__law_longest : ISs := (.cons (.par (.cons (.var 3) (.cons (.var 4) .nil)) (.cons (.int 0) (.cons (.int 0) .nil))) (.cons (.for_ (.var 2) (.seq (.bin .Mult (.var 0) (.int 3))) (.cons (.asg 4 (.ife (.cmp .In (.var 1) (.var 2)) (.int 0) (.bin .Add (.var 4) (.int 1)))) (.cons (.asg 3 (.bi .max (.cons (.var 3) (.cons (.var 4) .nil)))) .nil))) (.cons (.ret (.ife (.cmp .NotEq (.comp [2] (.var 2) (.var 2) (.seq (.var 0)) (.cons (.cmp .In (.var 1) (.var 2)) .nil)) (.lst .nil)) (.var 3) .non)) .nil)))
def f__law_longest : Fn := ⟨"_law_longest", ["days", "name"], ["days", "name", "day", "found", "here"], b__law_longest⟩
def b__law_is_good : ISs := (.cons (.ife (.not_ (.call 38 (.cons (.var 0) (.cons (.var 1) (.cons (.var 2) .nil))))) (.cons (.ret (.bl false)) .nil) .nil) (.cons (.asg 3 (.comp [4, 5] (.tup (.cons (.call 39 (.cons (.var 2) (.cons (.var 4) .nil))) (.cons (.var 5) .nil))) (.tup (.cons (.var 4) (.cons (.var 5) .nil))) (.seq (.var 0)) .nil)) (.cons (.ret (.cmp .Eq (.comp [6, 5] (.int 1) (.tup (.cons (.var 6) (.cons (.var 5) .nil))) (.seq (.var 3)) (.cons (.bool .Or (.cons (.cmp .Is (.var 6) .non) (.cons (.cmp .GtE (.var 6) (.var 5)) .nil))) .nil)) (.lst .nil))) .nil)))
def f__law_is_good : Fn := ⟨"_law_is_good", ["fields", "many", "value"], ["fields", "many", "value", "waits", "name", "days", "wait"], b__law_is_good⟩
def b__law_played : ISs := (.cons (.for_ (.var 3) (.seq (.var 2)) (.cons (.asg 1 (.ife (.cmp .IsNot (.var 1) .non) (.call 36 (.cons (.var 0) (.cons (.var 1) (.cons (.var 3) .nil)))) .non)) .nil)) (.cons (.ret (.var 1)) .nil))
def f__law_played : Fn := ⟨"_law_played", ["fields", "waits", "days"], ["fields", "waits", "days", "day"], b__law_played⟩
def b__law_near : ISs := (.cons (.par (.cons (.var 6) (.cons (.var 7) .nil)) (.cons (.call 28 (.cons (.var 0) (.cons (.bi .len (.cons (.var 3) .nil)) .nil))) (.cons (.comp [9] (.ix (.var 9) (.int 0)) (.var 9) (.seq (.var 1)) .nil) .nil))) (.cons (.asg 4 (.lst (.cons .non (.cons (.lst .nil) (.cons (.bi .list (.cons (.ix (.var 3) (.var 6)) .nil)) (.cons (.rev (.ix (.var 3) (.var 6))) (.cons (.bin .Add (.ix (.var 3) (.var 6)) (.sl (.ix (.var 3) (.var 6)) .no (.yes (.int 1)))) (.cons (.tup (.cons (.str "none0") .nil)) (.cons (.tup (.cons .non .nil)) (.cons (.ix (.var 7) (.int 0)) (.cons (.bi .tuple (.cons (.var 7) .nil)) (.cons (.tup .nil) .nil)))))))))))) (.cons (.asg 4 (.bin .Add (.var 4) (.lst (.cons (.bi .tuple (.cons (.sl (.var 7) .no (.yes (.var 2))) .nil)) (.cons (.bi .tuple (.cons (.sl (.var 7) .no (.yes (.bin .Add (.var 2) (.int 1)))) .nil)) .nil))))) (.cons (.asg 5 (.comp [8] (.bin .Add (.bin .Add (.sl (.var 3) .no (.yes (.var 6))) (.tup (.cons (.var 8) .nil))) (.sl (.var 3) (.yes (.bin .Add (.var 6) (.int 1))) .no)) (.var 8) (.seq (.var 4)) .nil)) (.cons (.ret (.bin .Add (.var 5) (.lst (.cons .non (.cons (.tup .nil) (.cons (.bi .list (.cons (.var 3) .nil)) (.cons (.bin .Add (.sl (.var 3) (.yes (.var 6)) .no) (.sl (.var 3) .no (.yes (.var 6)))) (.cons (.bin .Mult (.var 3) (.int 2)) (.cons (.bin .Add (.sl (.var 3) .no (.yes (.var 6))) (.sl (.var 3) (.yes (.bin .Add (.var 6) (.int 1))) .no)) (.cons (.rev (.var 3)) (.cons (.tup (.cons (.str "a") .nil)) (.cons (.bin .Add (.var 3) (.tup (.cons .non .nil))) .nil)))))))))))) .nil)))))
def f__law_near : Fn := ⟨"_law_near", ["cup", "fields", "many", "days"], ["cup", "fields", "many", "days", "odds", "found", "at", "names", "odd", "pair"], b__law_near⟩
def b__law_right : ISs := (.cons (.ife (.not_ (.call 31 (.cons (.lst (.cons (.call 20 (.cons (.var 1) .nil)) (.cons (.call 21 (.cons (.var 1) .nil)) .nil))) (.cons (.lst (.cons (.bl true) (.cons (.call 35 (.cons (.bi .sum (.cons (.comp [12, 8] (.bin .FloorDiv (.int 27720) (.var 8)) (.tup (.cons (.var 12) (.cons (.var 8) .nil))) (.seq (.var 1)) .nil) .nil)) (.cons (.int 27720) .nil))) .nil))) .nil)))) (.cons (.ret (.bl false)) .nil) .nil) (.cons (.par (.cons (.var 6) (.cons (.var 7) .nil)) (.cons (.comp [15] (.ix (.var 15) (.int 0)) (.var 15) (.seq (.var 1)) .nil) (.cons (.bin .Add (.int 1) (.call 28 (.cons (.var 0) (.cons (.int 3) .nil)))) .nil))) (.cons (.for_ (.var 2) (.range1 (.int 4)) (.cons (.asg 8 (.tup .nil)) (.cons (.for_ (.var 9) (.range1 (.bin .Add (.int 1) (.call 28 (.cons (.var 0) (.cons (.int 6) .nil))))) (.cons (.asg 13 (.comp [12] (.var 12) (.var 12) (.seq (.var 6)) (.cons (.cmp .Eq (.call 28 (.cons (.var 0) (.cons (.int 2) .nil))) (.int 0)) .nil))) (.cons (.asg 8 (.bin .Add (.var 8) (.tup (.cons (.bi .tuple (.cons (.bi .sorted (.cons (.sl (.var 13) .no (.yes (.var 7))) .nil)) .nil)) .nil)))) .nil))) (.cons (.asg 10 (.bi .tuple (.cons (.comp [12, 17] (.call 28 (.cons (.var 0) (.cons (.var 17) .nil))) (.tup (.cons (.var 12) (.cons (.var 17) .nil))) (.seq (.var 1)) .nil) .nil))) (.cons (.asg 11 (.lst (.cons (.call 22 (.cons (.var 1) (.cons (.var 7) (.cons (.var 8) .nil)))) (.cons (.call 23 (.cons (.var 1) (.cons (.var 7) (.cons (.var 8) .nil)))) (.cons (.call 26 (.cons (.var 1) (.cons (.var 7) (.cons (.var 10) (.cons (.var 8) .nil))))) .nil))))) (.cons (.ife (.not_ (.call 31 (.cons (.var 11) (.cons (.lst (.cons (.bl true) (.cons (.call 40 (.cons (.var 1) (.cons (.var 7) (.cons (.var 8) .nil)))) (.cons (.call 41 (.cons (.var 1) (.cons (.var 10) (.cons (.var 8) .nil)))) .nil)))) .nil)))) (.cons (.ret (.bl false)) .nil) .nil) (.cons (.ife (.cmp .NotEq (.comp [12] (.var 12) (.var 12) (.seq (.var 6)) (.cons (.not_ (.call 31 (.cons (.call 25 (.cons (.var 1) (.cons (.var 7) (.cons (.var 8) (.cons (.var 12) .nil))))) (.cons (.call 39 (.cons (.var 8) (.cons (.var 12) .nil))) .nil)))) .nil)) (.lst .nil)) (.cons (.ret (.bl false)) .nil) .nil) (.cons (.for_ (.var 5) (.seq (.call 42 (.cons (.var 0) (.cons (.var 1) (.cons (.var 7) (.cons (.var 8) .nil)))))) (.cons (.asg 14 (.lst (.cons (.call 38 (.cons (.var 1) (.cons (.var 7) (.cons (.var 5) .nil)))) (.cons (.call 40 (.cons (.var 1) (.cons (.var 7) (.cons (.var 5) .nil)))) .nil)))) (.cons (.ife (.not_ (.call 31 (.cons (.lst (.cons (.call 22 (.cons (.var 1) (.cons (.var 7) (.cons (.var 5) .nil)))) (.cons (.call 23 (.cons (.var 1) (.cons (.var 7) (.cons (.var 5) .nil)))) .nil))) (.cons (.var 14) .nil)))) (.cons (.ret (.bl false)) .nil) .nil) .nil))) .nil)))))))) (.cons (.asg 3 (.call 28 (.cons (.var 0) (.cons (.bi .len (.cons (.var 1) .nil)) .nil)))) (.cons (.unp (.cons (.var 12) (.cons (.var 8) .nil)) (.ix (.var 1) (.var 3))) (.cons (.asg 4 (.lst (.cons (.tup (.cons (.var 12) (.cons (.int 0) .nil))) (.cons (.tup (.cons (.var 12) (.cons (.int 13) .nil))) (.cons (.tup (.cons (.var 12) (.cons (.int 12) .nil))) (.cons (.tup (.cons (.var 12) (.cons (.bl true) .nil))) (.cons (.tup (.cons (.var 12) (.cons .non .nil))) (.cons (.tup (.cons (.var 12) .nil)) (.cons (.lst (.cons (.var 12) (.cons (.var 8) .nil))) (.cons (.tup (.cons (.var 12) (.cons (.var 8) (.cons (.int 1) .nil)))) (.cons (.tup (.cons (.str "") (.cons (.var 8) .nil))) (.cons (.tup (.cons (.str "A") (.cons (.var 8) .nil))) .nil)))))))))))) (.cons (.asg 4 (.bin .Add (.var 4) (.lst (.cons (.tup (.cons (.str "1a") (.cons (.var 8) .nil))) (.cons (.tup (.cons (.bin .Mult (.str "a") (.int 13)) (.cons (.var 8) .nil))) (.cons (.tup (.cons (.bin .Mult (.str "z") (.int 12)) (.cons (.var 8) .nil))) (.cons (.tup (.cons .non (.cons (.var 8) .nil))) (.cons (.tup (.cons (.tup (.cons (.var 12) .nil)) (.cons (.var 8) .nil))) (.cons (.tup (.cons (.str "a b") (.cons (.var 8) .nil))) (.cons (.tup (.cons (.var 8) (.cons (.var 12) .nil))) (.cons .non .nil))))))))))) (.cons (.for_ (.var 5) (.seq (.bin .Add (.comp [16] (.bin .Add (.bin .Add (.sl (.var 1) .no (.yes (.var 3))) (.tup (.cons (.var 16) .nil))) (.sl (.var 1) (.yes (.bin .Add (.var 3) (.int 1))) .no)) (.var 16) (.seq (.var 4)) .nil) (.lst (.cons .non (.cons (.tup .nil) (.cons (.lst .nil) (.cons (.bi .list (.cons (.var 1) .nil)) (.cons (.rev (.var 1)) (.cons (.bin .Add (.var 1) (.sl (.var 1) .no (.yes (.int 1)))) (.cons (.bl false) .nil)))))))))) (.cons (.ife (.not_ (.call 31 (.cons (.call 20 (.cons (.var 5) .nil)) (.cons (.call 37 (.cons (.var 5) .nil)) .nil)))) (.cons (.ret (.bl false)) .nil) .nil) .nil)) (.cons (.ret (.bl true)) .nil)))))))))
def f__law_right : Fn := ⟨"_law_right", ["cup", "fields"], ["cup", "fields", "turn", "at", "odds", "value", "names", "many", "days", "more", "waits", "told", "name", "day", "due", "pair", "odd", "own"], b__law_right⟩
def b__law_written : ISs := (.cons (.par (.cons (.var 11) (.cons (.var 12) .nil)) (.cons (.tup (.cons (.tup (.cons (.str "a") (.cons (.int 2) .nil))) (.cons (.tup (.cons (.str "b") (.cons (.int 4) .nil))) (.cons (.tup (.cons (.str "c") (.cons (.int 4) .nil))) .nil)))) (.cons (.tup (.cons (.tup (.cons (.str "a") .nil)) (.cons (.tup (.cons (.str "b") .nil)) (.cons (.tup (.cons (.str "a") .nil)) (.cons (.tup (.cons (.str "c") .nil)) .nil))))) .nil))) (.cons (.asg 1 (.lst (.cons (.call 23 (.cons (.var 11) (.cons (.int 1) (.cons (.var 12) .nil)))) (.cons (.call 23 (.cons (.var 11) (.cons (.int 1) (.cons (.sl (.var 12) .no (.yes (.int 2))) .nil)))) (.cons (.call 23 (.cons (.var 11) (.cons (.int 2) (.cons (.tup (.cons (.tup (.cons (.str "a") (.cons (.str "b") .nil))) (.cons (.tup (.cons (.str "a") (.cons (.str "c") .nil))) .nil))) .nil)))) (.cons (.call 23 (.cons (.var 11) (.cons (.int 1) (.cons (.tup (.cons (.tup (.cons (.str "a") (.cons (.str "b") .nil))) (.cons (.tup (.cons (.str "a") (.cons (.str "c") .nil))) .nil))) .nil)))) .nil)))))) (.cons (.asg 1 (.bin .Add (.var 1) (.lst (.cons (.call 25 (.cons (.var 11) (.cons (.int 1) (.cons (.var 12) (.cons (.str "c") .nil))))) (.cons (.call 25 (.cons (.var 11) (.cons (.int 1) (.cons (.sl (.var 12) .no (.yes (.int 2))) (.cons (.str "c") .nil))))) (.cons (.call 25 (.cons (.var 11) (.cons (.int 1) (.cons (.var 12) (.cons (.str "a") .nil))))) .nil)))))) (.cons (.asg 1 (.bin .Add (.var 1) (.lst (.cons (.call 26 (.cons (.var 11) (.cons (.int 1) (.cons (.tup (.cons (.int 0) (.cons (.int 0) (.cons (.int 0) .nil)))) (.cons (.var 12) .nil))))) (.cons (.call 26 (.cons (.var 11) (.cons (.int 1) (.cons (.tup (.cons (.int 1) (.cons (.int 2) (.cons (.int 3) .nil)))) (.cons (.var 12) .nil))))) (.cons (.call 21 (.cons (.var 11) .nil)) (.cons (.call 21 (.cons (.tup (.cons (.tup (.cons (.str "a") (.cons (.int 2) .nil))) (.cons (.tup (.cons (.str "b") (.cons (.int 3) .nil))) (.cons (.tup (.cons (.str "c") (.cons (.int 12) .nil))) .nil)))) .nil)) .nil))))))) (.cons (.ife (.not_ (.call 31 (.cons (.var 1) (.cons (.lst (.cons (.bl true) (.cons (.bl false) (.cons (.bl true) (.cons (.bl false) (.cons (.int 3) (.cons .non (.cons (.int 1) (.cons (.tup (.cons (.int 1) (.cons (.int 2) (.cons (.int 0) .nil)))) (.cons .non (.cons (.tup (.cons (.int 1) (.cons (.int 1) .nil))) (.cons (.tup (.cons (.int 11) (.cons (.int 12) .nil))) .nil)))))))))))) .nil)))) (.cons (.ret (.bl false)) .nil) .nil) (.cons (.asg 2 (.bi .tuple (.cons (.comp [16] (.tup (.cons (.var 16) (.cons (.int 8) .nil))) (.var 16) (.seq (.str "abcdefgh")) .nil) .nil))) (.cons (.asg 3 (.bi .tuple (.cons (.comp [16] (.tup (.cons (.var 16) .nil)) (.var 16) (.seq (.str "abcdefgh")) .nil) .nil))) (.cons (.asg 4 (.bi .tuple (.cons (.comp [16] (.tup (.cons (.var 16) (.cons (.ife (.cmp .Eq (.var 16) (.str "h")) (.int 9) (.int 8)) .nil))) (.var 16) (.seq (.str "abcdefgh")) .nil) .nil))) (.cons (.asg 5 (.call 28 (.cons (.var 0) (.cons (.int 7) .nil)))) (.cons (.asg 1 (.lst (.cons (.call 23 (.cons (.var 2) (.cons (.int 1) (.cons (.var 3) .nil)))) (.cons (.call 23 (.cons (.var 2) (.cons (.int 1) (.cons (.bin .Add (.sl (.var 3) (.yes (.var 5)) .no) (.sl (.var 3) .no (.yes (.var 5)))) .nil)))) (.cons (.call 23 (.cons (.var 2) (.cons (.int 1) (.cons (.bin .Add (.var 3) (.tup (.cons (.tup .nil) .nil))) .nil)))) (.cons (.call 23 (.cons (.var 2) (.cons (.int 1) (.cons (.bin .Add (.sl (.var 3) .no (.yes (.var 5))) (.sl (.var 3) (.yes (.bin .Add (.var 5) (.int 1))) .no)) .nil)))) .nil)))))) (.cons (.asg 1 (.bin .Add (.bin .Add (.var 1) (.lst (.cons (.call 20 (.cons (.var 2) .nil)) (.cons (.call 20 (.cons (.bin .Add (.var 2) (.tup (.cons (.tup (.cons (.str "i") (.cons (.int 8) .nil))) .nil))) .nil)) (.cons (.call 21 (.cons (.var 2) .nil)) .nil))))) (.comp [16] (.call 25 (.cons (.var 4) (.cons (.int 1) (.cons (.bin .Add (.var 3) (.sl (.var 3) (.yes (.int 7)) .no)) (.cons (.var 16) .nil))))) (.var 16) (.seq (.str "ha")) .nil))) (.cons (.ife (.not_ (.call 31 (.cons (.var 1) (.cons (.lst (.cons (.bl true) (.cons (.bl true) (.cons (.bl false) (.cons (.bl false) (.cons (.bl true) (.cons (.bl false) (.cons (.tup (.cons (.int 1) (.cons (.int 1) .nil))) (.cons (.int 7) (.cons (.int 8) .nil)))))))))) .nil)))) (.cons (.ret (.bl false)) .nil) .nil) (.cons (.par (.cons (.var 13) (.cons (.var 14) .nil)) (.cons (.tup (.cons (.tup (.cons (.str "a") (.cons (.int 3) .nil))) (.cons (.tup (.cons (.str "b") (.cons (.int 12) .nil))) .nil))) (.cons (.call 28 (.cons (.var 0) (.cons (.int 600) .nil))) .nil))) (.cons (.asg 6 (.bin .Mult (.tup (.cons (.tup (.cons (.str "a") .nil)) (.cons (.tup (.cons (.str "a") .nil)) (.cons (.tup (.cons (.str "b") .nil)) .nil)))) (.int 660))) (.cons (.asg 7 (.bin .Add (.bin .Add (.sl (.var 6) .no (.yes (.bin .Mult (.int 3) (.var 14)))) (.tup (.cons (.tup (.cons (.str "a") .nil)) (.cons (.tup (.cons (.str "b") .nil)) (.cons (.tup (.cons (.str "b") .nil)) (.cons (.tup (.cons (.str "b") .nil)) .nil)))))) (.sl (.var 6) (.yes (.bin .Mult (.int 3) (.var 14))) .no))) (.cons (.asg 1 (.lst (.cons (.call 23 (.cons (.var 13) (.cons (.int 1) (.cons (.var 6) .nil)))) (.cons (.call 23 (.cons (.var 13) (.cons (.int 1) (.cons (.var 7) .nil)))) (.cons (.call 25 (.cons (.var 13) (.cons (.int 1) (.cons (.var 7) (.cons (.str "a") .nil))))) .nil))))) (.cons (.asg 1 (.bin .Add (.var 1) (.comp [10] (.call 23 (.cons (.var 13) (.cons (.int 1) (.cons (.bin .Add (.var 6) (.bin .Mult (.tup (.cons (.tup (.cons (.str "b") .nil)) .nil)) (.var 10))) .nil)))) (.var 10) (.seq (.tup (.cons (.int 1) (.cons (.int 2) .nil)))) .nil))) (.cons (.asg 1 (.bin .Add (.var 1) (.lst (.cons (.call 22 (.cons (.var 13) (.cons (.int 1) (.cons (.bin .Add (.var 6) (.bin .Mult (.tup (.cons (.tup (.cons (.str "a") .nil)) .nil)) (.int 20))) .nil)))) (.cons (.call 22 (.cons (.var 13) (.cons (.int 1) (.cons (.bin .Add (.var 6) (.bin .Mult (.tup (.cons (.tup (.cons (.str "a") .nil)) .nil)) (.int 21))) .nil)))) (.cons (.call 23 (.cons (.var 13) (.cons (.int 1) (.cons (.bin .Add (.bin .Add (.tup (.cons (.tup (.cons (.str "b") .nil)) .nil)) (.var 6)) (.tup (.cons (.tup (.cons (.str "b") .nil)) .nil))) .nil)))) .nil)))))) (.cons (.ife (.not_ (.call 31 (.cons (.var 1) (.cons (.lst (.cons (.bl true) (.cons (.bl false) (.cons (.int 3) (.cons (.bl true) (.cons (.bl false) (.cons (.bl true) (.cons (.bl false) (.cons (.bl false) .nil))))))))) .nil)))) (.cons (.ret (.bl false)) .nil) .nil) (.cons (.unp (.cons (.var 11) (.cons (.var 15) .nil)) (.bi .sorted (.cons (.lst (.cons (.call 28 (.cons (.var 0) (.cons (.int 2000) .nil))) (.cons (.call 28 (.cons (.var 0) (.cons (.int 2000) .nil))) .nil))) .nil))) (.cons (.asg 8 (.bi .tuple (.cons (.comp [17] (.ife (.cmp .Eq (.var 17) (.var 11)) (.tup (.cons (.str "b") .nil)) (.tup .nil)) (.var 17) (.range1 (.int 2000)) .nil) .nil))) (.cons (.asg 9 (.bin .Add (.bin .Add (.sl (.var 8) .no (.yes (.var 15))) (.tup (.cons (.tup (.cons (.str "b") .nil)) .nil))) (.sl (.var 8) (.yes (.bin .Add (.var 15) (.int 1))) .no))) (.cons (.asg 10 (.bin .Add (.var 6) (.bin .Mult (.tup (.cons (.tup (.cons (.str "a") .nil)) .nil)) (.int 11)))) (.cons (.asg 1 (.lst (.cons (.call 25 (.cons (.var 13) (.cons (.int 1) (.cons (.var 8) (.cons (.str "b") .nil))))) (.cons (.call 25 (.cons (.var 13) (.cons (.int 1) (.cons (.var 9) (.cons (.str "b") .nil))))) (.cons (.call 25 (.cons (.var 13) (.cons (.int 1) (.cons (.var 8) (.cons (.str "a") .nil))))) .nil))))) (.cons (.asg 1 (.bin .Add (.var 1) (.lst (.cons (.call 26 (.cons (.var 13) (.cons (.int 1) (.cons (.tup (.cons (.int 0) (.cons (.int 0) .nil))) (.cons (.var 10) .nil))))) (.cons (.call 26 (.cons (.var 13) (.cons (.int 1) (.cons (.tup (.cons (.int 0) (.cons (.int 0) .nil))) (.cons (.bin .Add (.var 10) (.tup (.cons (.tup (.cons (.str "a") .nil)) .nil))) .nil))))) .nil))))) (.cons (.ret (.call 31 (.cons (.var 1) (.cons (.lst (.cons (.int 1999) (.cons (.bin .Sub (.bi .max (.cons (.bin .Sub (.var 15) (.var 11)) (.cons (.bin .Add (.bin .Sub (.int 2000) (.var 15)) (.var 11)) .nil))) (.int 1)) (.cons .non (.cons (.tup (.cons (.int 0) (.cons (.int 11) .nil))) (.cons .non .nil)))))) .nil)))) .nil))))))))))))))))))))))))))
def f__law_written : Fn := ⟨"_law_written", ["cup"], ["cup", "told", "eight", "turn", "nine", "at", "long", "gap", "once", "twice", "many", "one", "good", "pair", "far", "two", "name", "day"], b__law_written⟩
def b__law_written_right : ISs := (.cons (.par (.cons (.var 1) (.cons (.var 2) .nil)) (.cons (.tup (.cons (.tup (.cons (.str "a") (.cons (.int 2) .nil))) (.cons (.tup (.cons (.str "b") (.cons (.int 4) .nil))) (.cons (.tup (.cons (.str "c") (.cons (.int 4) .nil))) .nil)))) (.cons (.tup (.cons (.tup (.cons (.str "a") .nil)) (.cons (.tup (.cons (.str "b") .nil)) (.cons (.tup (.cons (.str "a") .nil)) (.cons (.tup (.cons (.str "c") .nil)) .nil))))) .nil))) (.cons (.asg 0 (.lst (.cons (.call 23 (.cons (.var 1) (.cons (.int 1) (.cons (.var 2) .nil)))) (.cons (.call 25 (.cons (.var 1) (.cons (.int 1) (.cons (.var 2) (.cons (.str "c") .nil))))) (.cons (.call 23 (.cons (.tup (.cons (.tup (.cons (.str "a") (.cons (.int 2) .nil))) .nil)) (.cons (.int 1) (.cons (.tup (.cons (.tup (.cons (.str "a") .nil)) (.cons (.tup .nil) (.cons (.tup .nil) .nil)))) .nil)))) (.cons (.call 22 (.cons (.var 1) (.cons (.int 2) (.cons (.tup (.cons (.tup (.cons (.str "b") (.cons (.str "a") .nil))) .nil)) .nil)))) .nil)))))) (.cons (.asg 0 (.bin .Add (.bin .Add (.var 0) (.comp [3] (.call 22 (.cons (.tup (.cons (.tup (.cons (.str "a") (.cons (.int 2) .nil))) .nil)) (.cons (.int 1) (.cons (.bin .Mult (.tup (.cons (.tup (.cons (.str "a") .nil)) .nil)) (.var 3)) .nil)))) (.var 3) (.seq (.tup (.cons (.int 2000) (.cons (.int 2001) .nil)))) .nil)) (.lst (.cons (.call 21 (.cons (.bi .tuple (.cons (.comp [4] (.tup (.cons (.var 4) (.cons (.int 8) .nil))) (.var 4) (.seq (.str "abcdefgh")) .nil) .nil)) .nil)) .nil)))) (.cons (.ret (.call 31 (.cons (.var 0) (.cons (.lst (.cons (.bl true) (.cons (.int 3) (.cons (.bl false) (.cons (.bl false) (.cons (.bl true) (.cons (.bl false) (.cons (.tup (.cons (.int 1) (.cons (.int 1) .nil))) .nil)))))))) .nil)))) .nil))))
def f__law_written_right : Fn := ⟨"_law_written_right", [], ["told", "one", "good", "many", "name"], b__law_written_right⟩
def b_law : ISs := (.cons (.ife (.not_ (.call 45 .nil)) (.cons (.ret (.bl false)) .nil) .nil) (.cons (.asg 1 (.call 27 (.cons (.var 0) .nil))) (.cons (.for_ (.var 2) (.range1 (.int 3)) (.cons (.ife (.not_ (.call 43 (.cons (.var 1) (.cons (.call 34 (.cons (.var 1) (.cons (.call 29 (.cons (.var 1) (.cons (.lst (.cons (.int 2) (.cons (.int 4) (.cons (.int 8) .nil)))) .nil))) (.cons (.call 29 (.cons (.var 1) (.cons (.lst (.cons (.int 3) (.cons (.int 6) (.cons (.int 12) .nil)))) .nil))) .nil)))) .nil)))) (.cons (.ret (.bl false)) .nil) .nil) .nil)) (.cons (.ret (.call 44 (.cons (.var 1) .nil))) .nil))))
def f_law : Fn := ⟨"law", ["script"], ["script", "cup", "turn"], b_law⟩
def tab : List Fn := [f_is_whole, f_is_tuple_of, f_divisor_of, f_reduced, f_added, f_added_up, f_is_rising, f_is_name, f_is_among, f_fits_fields, f_need_fields, f_need_many, f_names_of, f_fits_day, f_fits_round, f_wait_in, f_fits_good, f_fits_waits, f_need_waits, f_behind, f_are_fields, f_density, f_is_round, f_is_good, f_need_round, f_longest_wait, f_waits_behind, f__law_cup, f__law_roll, f__law_some, f__law_sort, f__law_like, f__law_name, f__law_names, f__law_fields, f__law_least, f__law_behind, f__law_are_fields, f__law_is_round, f__law_longest, f__law_is_good, f__law_played, f__law_near, f__law_right, f__law_written, f__law_written_right, f_law]
def gl : List (Str × Dat) := [("LETTERS", (.str "abcdefghijklmnopqrstuvwxyz")), ("SIGNS", (.int 12)), ("MOST_FIELDS", (.int 8)), ("MOST_DAYS", (.int 12)), ("MOST_MANY", (.int 3)), ("MOST_ROUND", (.int 2000))]
end K80
end
-- K80W
section
set_option Elab.async false
set_option linter.all false
set_option maxRecDepth 100000
set_option maxHeartbeats 0
namespace K80
open PySem PySem.Spec PyProof.Rows L2 Fw
def top (i : Nat) : Stmt := PySem.Challenge.pw_fieldwaters_k80_whole_fields_and_rounds.main.body.getD i (.Pass ⟨0, 0, 0, 0⟩)
def dd (x : Str) (i : Nat) : He.DefD := ⟨(x, none), x, x, defArgs (top i), defBody (top i), defScope (top i), [], []⟩
def fn : List He.DefD := [dd "is_whole" 6, dd "is_tuple_of" 7, dd "divisor_of" 8, dd "reduced" 9, dd "added" 10, dd "added_up" 11, dd "is_rising" 15, dd "is_name" 16, dd "is_among" 17, dd "fits_fields" 23, dd "need_fields" 24, dd "need_many" 25, dd "names_of" 26, dd "fits_day" 27, dd "fits_round" 28, dd "wait_in" 29, dd "fits_good" 30, dd "fits_waits" 31, dd "need_waits" 32, dd "behind" 33, dd "are_fields" 34, dd "density" 35, dd "is_round" 36, dd "is_good" 37, dd "need_round" 38, dd "longest_wait" 39, dd "waits_behind" 40, dd "_law_cup" 42, dd "_law_roll" 43, dd "_law_some" 44, dd "_law_sort" 45, dd "_law_like" 46, dd "_law_name" 47, dd "_law_names" 48, dd "_law_fields" 49, dd "_law_least" 50, dd "_law_behind" 51, dd "_law_are_fields" 52, dd "_law_is_round" 53, dd "_law_longest" 54, dd "_law_is_good" 55, dd "_law_played" 56, dd "_law_near" 57, dd "_law_right" 58, dd "_law_written" 59, dd "_law_written_right" 60, dd "law" 61]
def cfa : List He.Fa := [.str "LETTERS" "abcdefghijklmnopqrstuvwxyz", .int "SIGNS" 12, .int "MOST_FIELDS" 8, .int "MOST_DAYS" 12, .int "MOST_MANY" 3, .int "MOST_ROUND" 2000]
def fa : List He.Fa := (tab.map fun f => He.Fa.glo f.name) ++ (bltNames.map He.Fa.free ++ cfa)
abbrev R : PySem.W.OpenRow := PySem.W.OpenLaw.row PySem.Challenge.rw_fieldwaters_k80_whole_fields_and_rounds
abbrev hk : PySem.W.Hook := He.hookD 4 fa fn
def ob (s : PySem.W.SharedT) : He.AlD := He.obsDG 4 fa fn (HandSHeadRun.getT s)
theorem ob_eq (s : PySem.W.SharedT) : ob s = hk.obs s.abs := He.obsDG_eq (HandSHeadRun.getT_eq s)
def ls0 : List Str := ["WaterError", "InvalidName", "InvalidRound", "InvalidNumber", "is_whole", "is_tuple_of", "divisor_of", "reduced", "added", "added_up", "LETTERS", "SIGNS", "is_rising", "is_name", "is_among"]
def ls1 : List Str := ["MOST_FIELDS", "MOST_DAYS", "MOST_MANY", "MOST_ROUND", "fits_fields", "need_fields", "need_many", "names_of", "fits_day", "fits_round", "wait_in", "fits_good", "fits_waits", "need_waits", "behind"]
def ls2 : List Str := ["are_fields", "density", "is_round", "is_good", "need_round", "longest_wait", "waits_behind", "_law_cup", "_law_roll", "_law_some", "_law_sort", "_law_like", "_law_name", "_law_names", "_law_fields"]
def ls3 : List Str := ["_law_least", "_law_behind", "_law_are_fields", "_law_is_round", "_law_longest", "_law_is_good", "_law_played", "_law_near", "_law_right", "_law_written", "_law_written_right"]
theorem run (w : World) : HandSHeadRun.RunEq R (PySem.W.view R.prog [61]) hk ob 8000 (ls0 ++ ls1 ++ ls2 ++ ls3) w := by
  intro os
  kernel_rfl
theorem S_is_whole : FnScope f_is_whole.N f_is_whole.ps (defScope (top 6)) := ⟨rfl, rfl, rfl, by decide +kernel, rfl, by decide +kernel, by decide +kernel⟩
theorem C_is_whole : chkB b_is_whole (ctxOf tab gl f_is_whole (defScope (top 6))) (defBody (top 6)) = true := by decide +kernel
theorem S_is_tuple_of : FnScope f_is_tuple_of.N f_is_tuple_of.ps (defScope (top 7)) := ⟨rfl, rfl, rfl, by decide +kernel, rfl, by decide +kernel, by decide +kernel⟩
theorem C_is_tuple_of : chkB b_is_tuple_of (ctxOf tab gl f_is_tuple_of (defScope (top 7))) (defBody (top 7)) = true := by decide +kernel
theorem S_divisor_of : FnScope f_divisor_of.N f_divisor_of.ps (defScope (top 8)) := ⟨rfl, rfl, rfl, by decide +kernel, rfl, by decide +kernel, by decide +kernel⟩
theorem C_divisor_of : chkB b_divisor_of (ctxOf tab gl f_divisor_of (defScope (top 8))) (defBody (top 8)) = true := by decide +kernel
theorem S_reduced : FnScope f_reduced.N f_reduced.ps (defScope (top 9)) := ⟨rfl, rfl, rfl, by decide +kernel, rfl, by decide +kernel, by decide +kernel⟩
theorem C_reduced : chkB b_reduced (ctxOf tab gl f_reduced (defScope (top 9))) (defBody (top 9)) = true := by decide +kernel
theorem S_added : FnScope f_added.N f_added.ps (defScope (top 10)) := ⟨rfl, rfl, rfl, by decide +kernel, rfl, by decide +kernel, by decide +kernel⟩
theorem C_added : chkB b_added (ctxOf tab gl f_added (defScope (top 10))) (defBody (top 10)) = true := by decide +kernel
theorem S_added_up : FnScope f_added_up.N f_added_up.ps (defScope (top 11)) := ⟨rfl, rfl, rfl, by decide +kernel, rfl, by decide +kernel, by decide +kernel⟩
theorem C_added_up : chkB b_added_up (ctxOf tab gl f_added_up (defScope (top 11))) (defBody (top 11)) = true := by decide +kernel
theorem S_is_rising : FnScope f_is_rising.N f_is_rising.ps (defScope (top 15)) := ⟨rfl, rfl, rfl, by decide +kernel, rfl, by decide +kernel, by decide +kernel⟩
theorem C_is_rising : chkB b_is_rising (ctxOf tab gl f_is_rising (defScope (top 15))) (defBody (top 15)) = true := by decide +kernel
theorem S_is_name : FnScope f_is_name.N f_is_name.ps (defScope (top 16)) := ⟨rfl, rfl, rfl, by decide +kernel, rfl, by decide +kernel, by decide +kernel⟩
theorem C_is_name : chkB b_is_name (ctxOf tab gl f_is_name (defScope (top 16))) (defBody (top 16)) = true := by decide +kernel
theorem S_is_among : FnScope f_is_among.N f_is_among.ps (defScope (top 17)) := ⟨rfl, rfl, rfl, by decide +kernel, rfl, by decide +kernel, by decide +kernel⟩
theorem C_is_among : chkB b_is_among (ctxOf tab gl f_is_among (defScope (top 17))) (defBody (top 17)) = true := by decide +kernel
theorem S_fits_fields : FnScope f_fits_fields.N f_fits_fields.ps (defScope (top 23)) := ⟨rfl, rfl, rfl, by decide +kernel, rfl, by decide +kernel, by decide +kernel⟩
theorem C_fits_fields : chkB b_fits_fields (ctxOf tab gl f_fits_fields (defScope (top 23))) (defBody (top 23)) = true := by decide +kernel
theorem S_need_fields : FnScope f_need_fields.N f_need_fields.ps (defScope (top 24)) := ⟨rfl, rfl, rfl, by decide +kernel, rfl, by decide +kernel, by decide +kernel⟩
theorem C_need_fields : chkB b_need_fields (ctxOf tab gl f_need_fields (defScope (top 24))) (defBody (top 24)) = true := by decide +kernel
theorem S_need_many : FnScope f_need_many.N f_need_many.ps (defScope (top 25)) := ⟨rfl, rfl, rfl, by decide +kernel, rfl, by decide +kernel, by decide +kernel⟩
theorem C_need_many : chkB b_need_many (ctxOf tab gl f_need_many (defScope (top 25))) (defBody (top 25)) = true := by decide +kernel
theorem S_names_of : FnScope f_names_of.N f_names_of.ps (defScope (top 26)) := ⟨rfl, rfl, rfl, by decide +kernel, rfl, by decide +kernel, by decide +kernel⟩
theorem C_names_of : chkB b_names_of (ctxOf tab gl f_names_of (defScope (top 26))) (defBody (top 26)) = true := by decide +kernel
theorem S_fits_day : FnScope f_fits_day.N f_fits_day.ps (defScope (top 27)) := ⟨rfl, rfl, rfl, by decide +kernel, rfl, by decide +kernel, by decide +kernel⟩
theorem C_fits_day : chkB b_fits_day (ctxOf tab gl f_fits_day (defScope (top 27))) (defBody (top 27)) = true := by decide +kernel
theorem S_fits_round : FnScope f_fits_round.N f_fits_round.ps (defScope (top 28)) := ⟨rfl, rfl, rfl, by decide +kernel, rfl, by decide +kernel, by decide +kernel⟩
theorem C_fits_round : chkB b_fits_round (ctxOf tab gl f_fits_round (defScope (top 28))) (defBody (top 28)) = true := by decide +kernel
theorem S_wait_in : FnScope f_wait_in.N f_wait_in.ps (defScope (top 29)) := ⟨rfl, rfl, rfl, by decide +kernel, rfl, by decide +kernel, by decide +kernel⟩
theorem C_wait_in : chkB b_wait_in (ctxOf tab gl f_wait_in (defScope (top 29))) (defBody (top 29)) = true := by decide +kernel
theorem S_fits_good : FnScope f_fits_good.N f_fits_good.ps (defScope (top 30)) := ⟨rfl, rfl, rfl, by decide +kernel, rfl, by decide +kernel, by decide +kernel⟩
theorem C_fits_good : chkB b_fits_good (ctxOf tab gl f_fits_good (defScope (top 30))) (defBody (top 30)) = true := by decide +kernel
theorem S_fits_waits : FnScope f_fits_waits.N f_fits_waits.ps (defScope (top 31)) := ⟨rfl, rfl, rfl, by decide +kernel, rfl, by decide +kernel, by decide +kernel⟩
theorem C_fits_waits : chkB b_fits_waits (ctxOf tab gl f_fits_waits (defScope (top 31))) (defBody (top 31)) = true := by decide +kernel
theorem S_need_waits : FnScope f_need_waits.N f_need_waits.ps (defScope (top 32)) := ⟨rfl, rfl, rfl, by decide +kernel, rfl, by decide +kernel, by decide +kernel⟩
theorem C_need_waits : chkB b_need_waits (ctxOf tab gl f_need_waits (defScope (top 32))) (defBody (top 32)) = true := by decide +kernel
theorem S_behind : FnScope f_behind.N f_behind.ps (defScope (top 33)) := ⟨rfl, rfl, rfl, by decide +kernel, rfl, by decide +kernel, by decide +kernel⟩
theorem C_behind : chkB b_behind (ctxOf tab gl f_behind (defScope (top 33))) (defBody (top 33)) = true := by decide +kernel
theorem S_are_fields : FnScope f_are_fields.N f_are_fields.ps (defScope (top 34)) := ⟨rfl, rfl, rfl, by decide +kernel, rfl, by decide +kernel, by decide +kernel⟩
theorem C_are_fields : chkB b_are_fields (ctxOf tab gl f_are_fields (defScope (top 34))) (defBody (top 34)) = true := by decide +kernel
theorem S_density : FnScope f_density.N f_density.ps (defScope (top 35)) := ⟨rfl, rfl, rfl, by decide +kernel, rfl, by decide +kernel, by decide +kernel⟩
theorem C_density : chkB b_density (ctxOf tab gl f_density (defScope (top 35))) (defBody (top 35)) = true := by decide +kernel
theorem S_is_round : FnScope f_is_round.N f_is_round.ps (defScope (top 36)) := ⟨rfl, rfl, rfl, by decide +kernel, rfl, by decide +kernel, by decide +kernel⟩
theorem C_is_round : chkB b_is_round (ctxOf tab gl f_is_round (defScope (top 36))) (defBody (top 36)) = true := by decide +kernel
theorem S_is_good : FnScope f_is_good.N f_is_good.ps (defScope (top 37)) := ⟨rfl, rfl, rfl, by decide +kernel, rfl, by decide +kernel, by decide +kernel⟩
theorem C_is_good : chkB b_is_good (ctxOf tab gl f_is_good (defScope (top 37))) (defBody (top 37)) = true := by decide +kernel
theorem S_need_round : FnScope f_need_round.N f_need_round.ps (defScope (top 38)) := ⟨rfl, rfl, rfl, by decide +kernel, rfl, by decide +kernel, by decide +kernel⟩
theorem C_need_round : chkB b_need_round (ctxOf tab gl f_need_round (defScope (top 38))) (defBody (top 38)) = true := by decide +kernel
theorem S_longest_wait : FnScope f_longest_wait.N f_longest_wait.ps (defScope (top 39)) := ⟨rfl, rfl, rfl, by decide +kernel, rfl, by decide +kernel, by decide +kernel⟩
theorem C_longest_wait : chkB b_longest_wait (ctxOf tab gl f_longest_wait (defScope (top 39))) (defBody (top 39)) = true := by decide +kernel
theorem S_waits_behind : FnScope f_waits_behind.N f_waits_behind.ps (defScope (top 40)) := ⟨rfl, rfl, rfl, by decide +kernel, rfl, by decide +kernel, by decide +kernel⟩
theorem C_waits_behind : chkB b_waits_behind (ctxOf tab gl f_waits_behind (defScope (top 40))) (defBody (top 40)) = true := by decide +kernel
theorem S__law_cup : FnScope f__law_cup.N f__law_cup.ps (defScope (top 42)) := ⟨rfl, rfl, rfl, by decide +kernel, rfl, by decide +kernel, by decide +kernel⟩
theorem C__law_cup : chkB b__law_cup (ctxOf tab gl f__law_cup (defScope (top 42))) (defBody (top 42)) = true := by decide +kernel
theorem S__law_roll : FnScope f__law_roll.N f__law_roll.ps (defScope (top 43)) := ⟨rfl, rfl, rfl, by decide +kernel, rfl, by decide +kernel, by decide +kernel⟩
theorem C__law_roll : chkB b__law_roll (ctxOf tab gl f__law_roll (defScope (top 43))) (defBody (top 43)) = true := by decide +kernel
theorem S__law_some : FnScope f__law_some.N f__law_some.ps (defScope (top 44)) := ⟨rfl, rfl, rfl, by decide +kernel, rfl, by decide +kernel, by decide +kernel⟩
theorem C__law_some : chkB b__law_some (ctxOf tab gl f__law_some (defScope (top 44))) (defBody (top 44)) = true := by decide +kernel
theorem S__law_sort : FnScope f__law_sort.N f__law_sort.ps (defScope (top 45)) := ⟨rfl, rfl, rfl, by decide +kernel, rfl, by decide +kernel, by decide +kernel⟩
theorem C__law_sort : chkB b__law_sort (ctxOf tab gl f__law_sort (defScope (top 45))) (defBody (top 45)) = true := by decide +kernel
theorem S__law_like : FnScope f__law_like.N f__law_like.ps (defScope (top 46)) := ⟨rfl, rfl, rfl, by decide +kernel, rfl, by decide +kernel, by decide +kernel⟩
theorem C__law_like : chkB b__law_like (ctxOf tab gl f__law_like (defScope (top 46))) (defBody (top 46)) = true := by decide +kernel
theorem S__law_name : FnScope f__law_name.N f__law_name.ps (defScope (top 47)) := ⟨rfl, rfl, rfl, by decide +kernel, rfl, by decide +kernel, by decide +kernel⟩
theorem C__law_name : chkB b__law_name (ctxOf tab gl f__law_name (defScope (top 47))) (defBody (top 47)) = true := by decide +kernel
theorem S__law_names : FnScope f__law_names.N f__law_names.ps (defScope (top 48)) := ⟨rfl, rfl, rfl, by decide +kernel, rfl, by decide +kernel, by decide +kernel⟩
theorem C__law_names : chkB b__law_names (ctxOf tab gl f__law_names (defScope (top 48))) (defBody (top 48)) = true := by decide +kernel
theorem S__law_fields : FnScope f__law_fields.N f__law_fields.ps (defScope (top 49)) := ⟨rfl, rfl, rfl, by decide +kernel, rfl, by decide +kernel, by decide +kernel⟩
theorem C__law_fields : chkB b__law_fields (ctxOf tab gl f__law_fields (defScope (top 49))) (defBody (top 49)) = true := by decide +kernel
theorem S__law_least : FnScope f__law_least.N f__law_least.ps (defScope (top 50)) := ⟨rfl, rfl, rfl, by decide +kernel, rfl, by decide +kernel, by decide +kernel⟩
theorem C__law_least : chkB b__law_least (ctxOf tab gl f__law_least (defScope (top 50))) (defBody (top 50)) = true := by decide +kernel
theorem S__law_behind : FnScope f__law_behind.N f__law_behind.ps (defScope (top 51)) := ⟨rfl, rfl, rfl, by decide +kernel, rfl, by decide +kernel, by decide +kernel⟩
theorem C__law_behind : chkB b__law_behind (ctxOf tab gl f__law_behind (defScope (top 51))) (defBody (top 51)) = true := by decide +kernel
theorem S__law_are_fields : FnScope f__law_are_fields.N f__law_are_fields.ps (defScope (top 52)) := ⟨rfl, rfl, rfl, by decide +kernel, rfl, by decide +kernel, by decide +kernel⟩
theorem C__law_are_fields : chkB b__law_are_fields (ctxOf tab gl f__law_are_fields (defScope (top 52))) (defBody (top 52)) = true := by decide +kernel
theorem S__law_is_round : FnScope f__law_is_round.N f__law_is_round.ps (defScope (top 53)) := ⟨rfl, rfl, rfl, by decide +kernel, rfl, by decide +kernel, by decide +kernel⟩
theorem C__law_is_round : chkB b__law_is_round (ctxOf tab gl f__law_is_round (defScope (top 53))) (defBody (top 53)) = true := by decide +kernel
theorem S__law_longest : FnScope f__law_longest.N f__law_longest.ps (defScope (top 54)) := ⟨rfl, rfl, rfl, by decide +kernel, rfl, by decide +kernel, by decide +kernel⟩
theorem C__law_longest : chkB b__law_longest (ctxOf tab gl f__law_longest (defScope (top 54))) (defBody (top 54)) = true := by decide +kernel
theorem S__law_is_good : FnScope f__law_is_good.N f__law_is_good.ps (defScope (top 55)) := ⟨rfl, rfl, rfl, by decide +kernel, rfl, by decide +kernel, by decide +kernel⟩
theorem C__law_is_good : chkB b__law_is_good (ctxOf tab gl f__law_is_good (defScope (top 55))) (defBody (top 55)) = true := by decide +kernel
theorem S__law_played : FnScope f__law_played.N f__law_played.ps (defScope (top 56)) := ⟨rfl, rfl, rfl, by decide +kernel, rfl, by decide +kernel, by decide +kernel⟩
theorem C__law_played : chkB b__law_played (ctxOf tab gl f__law_played (defScope (top 56))) (defBody (top 56)) = true := by decide +kernel
theorem S__law_near : FnScope f__law_near.N f__law_near.ps (defScope (top 57)) := ⟨rfl, rfl, rfl, by decide +kernel, rfl, by decide +kernel, by decide +kernel⟩
theorem C__law_near : chkB b__law_near (ctxOf tab gl f__law_near (defScope (top 57))) (defBody (top 57)) = true := by decide +kernel
theorem S__law_right : FnScope f__law_right.N f__law_right.ps (defScope (top 58)) := ⟨rfl, rfl, rfl, by decide +kernel, rfl, by decide +kernel, by decide +kernel⟩
theorem C__law_right : chkB b__law_right (ctxOf tab gl f__law_right (defScope (top 58))) (defBody (top 58)) = true := by decide +kernel
theorem S__law_written : FnScope f__law_written.N f__law_written.ps (defScope (top 59)) := ⟨rfl, rfl, rfl, by decide +kernel, rfl, by decide +kernel, by decide +kernel⟩
theorem C__law_written : chkB b__law_written (ctxOf tab gl f__law_written (defScope (top 59))) (defBody (top 59)) = true := by decide +kernel
theorem S__law_written_right : FnScope f__law_written_right.N f__law_written_right.ps (defScope (top 60)) := ⟨rfl, rfl, rfl, by decide +kernel, rfl, by decide +kernel, by decide +kernel⟩
theorem C__law_written_right : chkB b__law_written_right (ctxOf tab gl f__law_written_right (defScope (top 60))) (defBody (top 60)) = true := by decide +kernel
theorem S_law : FnScope f_law.N f_law.ps (defScope (top 61)) := ⟨rfl, rfl, rfl, by decide +kernel, rfl, by decide +kernel, by decide +kernel⟩
theorem C_law : chkB b_law (ctxOf tab gl f_law (defScope (top 61))) (defBody (top 61)) = true := by decide +kernel
section
variable {P : Program} {w : World} {K : PySem.W.Frag} {h : Heap} {mg : Str → Option Value}
theorem allFa (c : He.SaysD fa fn K) {f : He.Fa} (hf : f ∈ fa) : f.ok K = true := by
  have c1 := (He.ba (show ((fa.all fun f => f.ok K) && fn.all fun d => d.ok K) = true from congrArg (fun z : He.AlD => z.1) c)).1
  exact List.all_eq_true.mp c1 f hf
theorem glo_f (X : K.In h) (G : h.Ns mainGlobals mg) (c : He.SaysD fa fn K) {f : Fn} (hf : f ∈ tab) : mg f.name = some (.ref (He.ga K f.name)) :=
  He.glo_ok X G (allFa c (List.mem_append_left _ (List.mem_map_of_mem hf)))
theorem blt_f (X : K.In h) (G : h.Ns mainGlobals mg) (c : He.SaysD fa fn K) : ∀ x ∈ bltNames, mg x = none := fun x hx =>
  He.free_ok X G (allFa c (List.mem_append_right _ (List.mem_append_left _ (List.mem_map_of_mem hx))))
theorem con_f (c : He.SaysD fa fn K) {f : He.Fa} (hf : f ∈ cfa) : f.ok K = true := allFa c (List.mem_append_right _ (List.mem_append_right _ hf))
theorem lookup_all {P : Str → Dat → Prop} : ∀ {l : List (Str × Dat)}, (∀ p ∈ l, P p.1 p.2) → ∀ x d, l.lookup x = some d → P x d
  | [], _, _, _, h => by cases h
  | (a, e) :: r, hp, x, d, h => by
    unfold List.lookup at h
    cases q : x == a with
    | true =>
      rw [q] at h
      cases h
      rw [beq_iff_eq.mp q]
      exact hp _ List.mem_cons_self
    | false =>
      rw [q] at h
      exact lookup_all (fun p hq => hp p (List.mem_cons_of_mem _ hq)) x d h
def Gval (K : PySem.W.Frag) (mg : Str → Option Value) (x : Str) (d : Dat) : Prop := ∃ v u, mg x = some u ∧ RelV v u ∧ ∀ H F μ, Rep K H F μ v d
theorem gv_int (X : K.In h) (G : h.Ns mainGlobals mg) {x : Str} {i : Int} (c : (He.Fa.int x i).ok K = true) : Gval K mg x (.int i) := by
  obtain ⟨t, e⟩ := He.int_ok X G c
  exact ⟨.int i, _, e, ⟨t, rfl⟩, fun _ _ _ => .int i⟩
theorem gv_str (X : K.In h) (G : h.Ns mainGlobals mg) {x z : Str} (c : (He.Fa.str x z).ok K = true) : Gval K mg x (.str z) := by
  obtain ⟨t, e⟩ := He.str_ok X G c
  exact ⟨.str z, _, e, ⟨t, rfl⟩, fun _ _ _ => .str z⟩
theorem gl_f (X : K.In h) (G : h.Ns mainGlobals mg) (c : He.SaysD fa fn K) : ∀ p ∈ gl, Gval K mg p.1 p.2 := List.forall_mem_cons.mpr ⟨gv_str X G (con_f c (f := .str "LETTERS" "abcdefghijklmnopqrstuvwxyz") (List.mem_of_getElem? (i := 0) rfl)), List.forall_mem_cons.mpr ⟨gv_int X G (con_f c (f := .int "SIGNS" 12) (List.mem_of_getElem? (i := 1) rfl)), List.forall_mem_cons.mpr ⟨gv_int X G (con_f c (f := .int "MOST_FIELDS" 8) (List.mem_of_getElem? (i := 2) rfl)), List.forall_mem_cons.mpr ⟨gv_int X G (con_f c (f := .int "MOST_DAYS" 12) (List.mem_of_getElem? (i := 3) rfl)), List.forall_mem_cons.mpr ⟨gv_int X G (con_f c (f := .int "MOST_MANY" 3) (List.mem_of_getElem? (i := 4) rfl)), List.forall_mem_cons.mpr ⟨gv_int X G (con_f c (f := .int "MOST_ROUND" 2000) (List.mem_of_getElem? (i := 5) rfl)), fun _ hp => nomatch hp⟩⟩⟩⟩⟩⟩
theorem base_f (X : K.In h) (G : h.Ns mainGlobals mg) (c : He.SaysD fa fn K) : Base K mg gl := ⟨blt_f X G c, lookup_all (gl_f X G c)⟩
theorem D_is_whole (X : K.In h) (G : h.Ns mainGlobals mg) (c : He.SaysD fa fn K) : DefOk K mg tab gl f_is_whole := by
  obtain ⟨fd, F⟩ := c.def_ 0 (d := dd "is_whole" 6) rfl
  exact ⟨⟨_, fd, _, _, _, _, _, glo_f X G c (List.mem_of_getElem? (i := 0) rfl), F, F.bindsN (fun _ _ _ _ _ _ us hl => match us, hl with | [_, _, _], _ => rfl), S_is_whole, C_is_whole⟩⟩
theorem D_is_tuple_of (X : K.In h) (G : h.Ns mainGlobals mg) (c : He.SaysD fa fn K) : DefOk K mg tab gl f_is_tuple_of := by
  obtain ⟨fd, F⟩ := c.def_ 1 (d := dd "is_tuple_of" 7) rfl
  exact ⟨⟨_, fd, _, _, _, _, _, glo_f X G c (List.mem_of_getElem? (i := 1) rfl), F, F.bindsN (fun _ _ _ _ _ _ us hl => match us, hl with | [_, _, _], _ => rfl), S_is_tuple_of, C_is_tuple_of⟩⟩
theorem D_divisor_of (X : K.In h) (G : h.Ns mainGlobals mg) (c : He.SaysD fa fn K) : DefOk K mg tab gl f_divisor_of := by
  obtain ⟨fd, F⟩ := c.def_ 2 (d := dd "divisor_of" 8) rfl
  exact ⟨⟨_, fd, _, _, _, _, _, glo_f X G c (List.mem_of_getElem? (i := 2) rfl), F, F.bindsN (fun _ _ _ _ _ _ us hl => match us, hl with | [_, _], _ => rfl), S_divisor_of, C_divisor_of⟩⟩
theorem D_reduced (X : K.In h) (G : h.Ns mainGlobals mg) (c : He.SaysD fa fn K) : DefOk K mg tab gl f_reduced := by
  obtain ⟨fd, F⟩ := c.def_ 3 (d := dd "reduced" 9) rfl
  exact ⟨⟨_, fd, _, _, _, _, _, glo_f X G c (List.mem_of_getElem? (i := 3) rfl), F, F.bindsN (fun _ _ _ _ _ _ us hl => match us, hl with | [_, _], _ => rfl), S_reduced, C_reduced⟩⟩
theorem D_added (X : K.In h) (G : h.Ns mainGlobals mg) (c : He.SaysD fa fn K) : DefOk K mg tab gl f_added := by
  obtain ⟨fd, F⟩ := c.def_ 4 (d := dd "added" 10) rfl
  exact ⟨⟨_, fd, _, _, _, _, _, glo_f X G c (List.mem_of_getElem? (i := 4) rfl), F, F.bindsN (fun _ _ _ _ _ _ us hl => match us, hl with | [_, _], _ => rfl), S_added, C_added⟩⟩
theorem D_added_up (X : K.In h) (G : h.Ns mainGlobals mg) (c : He.SaysD fa fn K) : DefOk K mg tab gl f_added_up := by
  obtain ⟨fd, F⟩ := c.def_ 5 (d := dd "added_up" 11) rfl
  exact ⟨⟨_, fd, _, _, _, _, _, glo_f X G c (List.mem_of_getElem? (i := 5) rfl), F, F.bindsN (fun _ _ _ _ _ _ us hl => match us, hl with | [_], _ => rfl), S_added_up, C_added_up⟩⟩
theorem D_is_rising (X : K.In h) (G : h.Ns mainGlobals mg) (c : He.SaysD fa fn K) : DefOk K mg tab gl f_is_rising := by
  obtain ⟨fd, F⟩ := c.def_ 6 (d := dd "is_rising" 15) rfl
  exact ⟨⟨_, fd, _, _, _, _, _, glo_f X G c (List.mem_of_getElem? (i := 6) rfl), F, F.bindsN (fun _ _ _ _ _ _ us hl => match us, hl with | [_], _ => rfl), S_is_rising, C_is_rising⟩⟩
theorem D_is_name (X : K.In h) (G : h.Ns mainGlobals mg) (c : He.SaysD fa fn K) : DefOk K mg tab gl f_is_name := by
  obtain ⟨fd, F⟩ := c.def_ 7 (d := dd "is_name" 16) rfl
  exact ⟨⟨_, fd, _, _, _, _, _, glo_f X G c (List.mem_of_getElem? (i := 7) rfl), F, F.bindsN (fun _ _ _ _ _ _ us hl => match us, hl with | [_], _ => rfl), S_is_name, C_is_name⟩⟩
theorem D_is_among (X : K.In h) (G : h.Ns mainGlobals mg) (c : He.SaysD fa fn K) : DefOk K mg tab gl f_is_among := by
  obtain ⟨fd, F⟩ := c.def_ 8 (d := dd "is_among" 17) rfl
  exact ⟨⟨_, fd, _, _, _, _, _, glo_f X G c (List.mem_of_getElem? (i := 8) rfl), F, F.bindsN (fun _ _ _ _ _ _ us hl => match us, hl with | [_, _], _ => rfl), S_is_among, C_is_among⟩⟩
theorem D_fits_fields (X : K.In h) (G : h.Ns mainGlobals mg) (c : He.SaysD fa fn K) : DefOk K mg tab gl f_fits_fields := by
  obtain ⟨fd, F⟩ := c.def_ 9 (d := dd "fits_fields" 23) rfl
  exact ⟨⟨_, fd, _, _, _, _, _, glo_f X G c (List.mem_of_getElem? (i := 9) rfl), F, F.bindsN (fun _ _ _ _ _ _ us hl => match us, hl with | [_], _ => rfl), S_fits_fields, C_fits_fields⟩⟩
theorem D_need_fields (X : K.In h) (G : h.Ns mainGlobals mg) (c : He.SaysD fa fn K) : DefOk K mg tab gl f_need_fields := by
  obtain ⟨fd, F⟩ := c.def_ 10 (d := dd "need_fields" 24) rfl
  exact ⟨⟨_, fd, _, _, _, _, _, glo_f X G c (List.mem_of_getElem? (i := 10) rfl), F, F.bindsN (fun _ _ _ _ _ _ us hl => match us, hl with | [_], _ => rfl), S_need_fields, C_need_fields⟩⟩
theorem D_need_many (X : K.In h) (G : h.Ns mainGlobals mg) (c : He.SaysD fa fn K) : DefOk K mg tab gl f_need_many := by
  obtain ⟨fd, F⟩ := c.def_ 11 (d := dd "need_many" 25) rfl
  exact ⟨⟨_, fd, _, _, _, _, _, glo_f X G c (List.mem_of_getElem? (i := 11) rfl), F, F.bindsN (fun _ _ _ _ _ _ us hl => match us, hl with | [_, _], _ => rfl), S_need_many, C_need_many⟩⟩
theorem D_names_of (X : K.In h) (G : h.Ns mainGlobals mg) (c : He.SaysD fa fn K) : DefOk K mg tab gl f_names_of := by
  obtain ⟨fd, F⟩ := c.def_ 12 (d := dd "names_of" 26) rfl
  exact ⟨⟨_, fd, _, _, _, _, _, glo_f X G c (List.mem_of_getElem? (i := 12) rfl), F, F.bindsN (fun _ _ _ _ _ _ us hl => match us, hl with | [_], _ => rfl), S_names_of, C_names_of⟩⟩
theorem D_fits_day (X : K.In h) (G : h.Ns mainGlobals mg) (c : He.SaysD fa fn K) : DefOk K mg tab gl f_fits_day := by
  obtain ⟨fd, F⟩ := c.def_ 13 (d := dd "fits_day" 27) rfl
  exact ⟨⟨_, fd, _, _, _, _, _, glo_f X G c (List.mem_of_getElem? (i := 13) rfl), F, F.bindsN (fun _ _ _ _ _ _ us hl => match us, hl with | [_, _, _], _ => rfl), S_fits_day, C_fits_day⟩⟩
theorem D_fits_round (X : K.In h) (G : h.Ns mainGlobals mg) (c : He.SaysD fa fn K) : DefOk K mg tab gl f_fits_round := by
  obtain ⟨fd, F⟩ := c.def_ 14 (d := dd "fits_round" 28) rfl
  exact ⟨⟨_, fd, _, _, _, _, _, glo_f X G c (List.mem_of_getElem? (i := 14) rfl), F, F.bindsN (fun _ _ _ _ _ _ us hl => match us, hl with | [_, _, _], _ => rfl), S_fits_round, C_fits_round⟩⟩
theorem D_wait_in (X : K.In h) (G : h.Ns mainGlobals mg) (c : He.SaysD fa fn K) : DefOk K mg tab gl f_wait_in := by
  obtain ⟨fd, F⟩ := c.def_ 15 (d := dd "wait_in" 29) rfl
  exact ⟨⟨_, fd, _, _, _, _, _, glo_f X G c (List.mem_of_getElem? (i := 15) rfl), F, F.bindsN (fun _ _ _ _ _ _ us hl => match us, hl with | [_, _], _ => rfl), S_wait_in, C_wait_in⟩⟩
theorem D_fits_good (X : K.In h) (G : h.Ns mainGlobals mg) (c : He.SaysD fa fn K) : DefOk K mg tab gl f_fits_good := by
  obtain ⟨fd, F⟩ := c.def_ 16 (d := dd "fits_good" 30) rfl
  exact ⟨⟨_, fd, _, _, _, _, _, glo_f X G c (List.mem_of_getElem? (i := 16) rfl), F, F.bindsN (fun _ _ _ _ _ _ us hl => match us, hl with | [_, _, _], _ => rfl), S_fits_good, C_fits_good⟩⟩
theorem D_fits_waits (X : K.In h) (G : h.Ns mainGlobals mg) (c : He.SaysD fa fn K) : DefOk K mg tab gl f_fits_waits := by
  obtain ⟨fd, F⟩ := c.def_ 17 (d := dd "fits_waits" 31) rfl
  exact ⟨⟨_, fd, _, _, _, _, _, glo_f X G c (List.mem_of_getElem? (i := 17) rfl), F, F.bindsN (fun _ _ _ _ _ _ us hl => match us, hl with | [_, _], _ => rfl), S_fits_waits, C_fits_waits⟩⟩
theorem D_need_waits (X : K.In h) (G : h.Ns mainGlobals mg) (c : He.SaysD fa fn K) : DefOk K mg tab gl f_need_waits := by
  obtain ⟨fd, F⟩ := c.def_ 18 (d := dd "need_waits" 32) rfl
  exact ⟨⟨_, fd, _, _, _, _, _, glo_f X G c (List.mem_of_getElem? (i := 18) rfl), F, F.bindsN (fun _ _ _ _ _ _ us hl => match us, hl with | [_, _], _ => rfl), S_need_waits, C_need_waits⟩⟩
theorem D_behind (X : K.In h) (G : h.Ns mainGlobals mg) (c : He.SaysD fa fn K) : DefOk K mg tab gl f_behind := by
  obtain ⟨fd, F⟩ := c.def_ 19 (d := dd "behind" 33) rfl
  exact ⟨⟨_, fd, _, _, _, _, _, glo_f X G c (List.mem_of_getElem? (i := 19) rfl), F, F.bindsN (fun _ _ _ _ _ _ us hl => match us, hl with | [_, _, _], _ => rfl), S_behind, C_behind⟩⟩
theorem D_are_fields (X : K.In h) (G : h.Ns mainGlobals mg) (c : He.SaysD fa fn K) : DefOk K mg tab gl f_are_fields := by
  obtain ⟨fd, F⟩ := c.def_ 20 (d := dd "are_fields" 34) rfl
  exact ⟨⟨_, fd, _, _, _, _, _, glo_f X G c (List.mem_of_getElem? (i := 20) rfl), F, F.bindsN (fun _ _ _ _ _ _ us hl => match us, hl with | [_], _ => rfl), S_are_fields, C_are_fields⟩⟩
theorem D_density (X : K.In h) (G : h.Ns mainGlobals mg) (c : He.SaysD fa fn K) : DefOk K mg tab gl f_density := by
  obtain ⟨fd, F⟩ := c.def_ 21 (d := dd "density" 35) rfl
  exact ⟨⟨_, fd, _, _, _, _, _, glo_f X G c (List.mem_of_getElem? (i := 21) rfl), F, F.bindsN (fun _ _ _ _ _ _ us hl => match us, hl with | [_], _ => rfl), S_density, C_density⟩⟩
theorem D_is_round (X : K.In h) (G : h.Ns mainGlobals mg) (c : He.SaysD fa fn K) : DefOk K mg tab gl f_is_round := by
  obtain ⟨fd, F⟩ := c.def_ 22 (d := dd "is_round" 36) rfl
  exact ⟨⟨_, fd, _, _, _, _, _, glo_f X G c (List.mem_of_getElem? (i := 22) rfl), F, F.bindsN (fun _ _ _ _ _ _ us hl => match us, hl with | [_, _, _], _ => rfl), S_is_round, C_is_round⟩⟩
theorem D_is_good (X : K.In h) (G : h.Ns mainGlobals mg) (c : He.SaysD fa fn K) : DefOk K mg tab gl f_is_good := by
  obtain ⟨fd, F⟩ := c.def_ 23 (d := dd "is_good" 37) rfl
  exact ⟨⟨_, fd, _, _, _, _, _, glo_f X G c (List.mem_of_getElem? (i := 23) rfl), F, F.bindsN (fun _ _ _ _ _ _ us hl => match us, hl with | [_, _, _], _ => rfl), S_is_good, C_is_good⟩⟩
theorem D_need_round (X : K.In h) (G : h.Ns mainGlobals mg) (c : He.SaysD fa fn K) : DefOk K mg tab gl f_need_round := by
  obtain ⟨fd, F⟩ := c.def_ 24 (d := dd "need_round" 38) rfl
  exact ⟨⟨_, fd, _, _, _, _, _, glo_f X G c (List.mem_of_getElem? (i := 24) rfl), F, F.bindsN (fun _ _ _ _ _ _ us hl => match us, hl with | [_, _, _], _ => rfl), S_need_round, C_need_round⟩⟩
theorem D_longest_wait (X : K.In h) (G : h.Ns mainGlobals mg) (c : He.SaysD fa fn K) : DefOk K mg tab gl f_longest_wait := by
  obtain ⟨fd, F⟩ := c.def_ 25 (d := dd "longest_wait" 39) rfl
  exact ⟨⟨_, fd, _, _, _, _, _, glo_f X G c (List.mem_of_getElem? (i := 25) rfl), F, F.bindsN (fun _ _ _ _ _ _ us hl => match us, hl with | [_, _, _, _], _ => rfl), S_longest_wait, C_longest_wait⟩⟩
theorem D_waits_behind (X : K.In h) (G : h.Ns mainGlobals mg) (c : He.SaysD fa fn K) : DefOk K mg tab gl f_waits_behind := by
  obtain ⟨fd, F⟩ := c.def_ 26 (d := dd "waits_behind" 40) rfl
  exact ⟨⟨_, fd, _, _, _, _, _, glo_f X G c (List.mem_of_getElem? (i := 26) rfl), F, F.bindsN (fun _ _ _ _ _ _ us hl => match us, hl with | [_, _, _, _], _ => rfl), S_waits_behind, C_waits_behind⟩⟩
theorem D__law_cup (X : K.In h) (G : h.Ns mainGlobals mg) (c : He.SaysD fa fn K) : DefOk K mg tab gl f__law_cup := by
  obtain ⟨fd, F⟩ := c.def_ 27 (d := dd "_law_cup" 42) rfl
  exact ⟨⟨_, fd, _, _, _, _, _, glo_f X G c (List.mem_of_getElem? (i := 27) rfl), F, F.bindsN (fun _ _ _ _ _ _ us hl => match us, hl with | [_], _ => rfl), S__law_cup, C__law_cup⟩⟩
theorem D__law_roll (X : K.In h) (G : h.Ns mainGlobals mg) (c : He.SaysD fa fn K) : DefOk K mg tab gl f__law_roll := by
  obtain ⟨fd, F⟩ := c.def_ 28 (d := dd "_law_roll" 43) rfl
  exact ⟨⟨_, fd, _, _, _, _, _, glo_f X G c (List.mem_of_getElem? (i := 28) rfl), F, F.bindsN (fun _ _ _ _ _ _ us hl => match us, hl with | [_, _], _ => rfl), S__law_roll, C__law_roll⟩⟩
theorem D__law_some (X : K.In h) (G : h.Ns mainGlobals mg) (c : He.SaysD fa fn K) : DefOk K mg tab gl f__law_some := by
  obtain ⟨fd, F⟩ := c.def_ 29 (d := dd "_law_some" 44) rfl
  exact ⟨⟨_, fd, _, _, _, _, _, glo_f X G c (List.mem_of_getElem? (i := 29) rfl), F, F.bindsN (fun _ _ _ _ _ _ us hl => match us, hl with | [_, _], _ => rfl), S__law_some, C__law_some⟩⟩
theorem D__law_sort (X : K.In h) (G : h.Ns mainGlobals mg) (c : He.SaysD fa fn K) : DefOk K mg tab gl f__law_sort := by
  obtain ⟨fd, F⟩ := c.def_ 30 (d := dd "_law_sort" 45) rfl
  exact ⟨⟨_, fd, _, _, _, _, _, glo_f X G c (List.mem_of_getElem? (i := 30) rfl), F, F.bindsN (fun _ _ _ _ _ _ us hl => match us, hl with | [_], _ => rfl), S__law_sort, C__law_sort⟩⟩
theorem D__law_like (X : K.In h) (G : h.Ns mainGlobals mg) (c : He.SaysD fa fn K) : DefOk K mg tab gl f__law_like := by
  obtain ⟨fd, F⟩ := c.def_ 31 (d := dd "_law_like" 46) rfl
  exact ⟨⟨_, fd, _, _, _, _, _, glo_f X G c (List.mem_of_getElem? (i := 31) rfl), F, F.bindsN (fun _ _ _ _ _ _ us hl => match us, hl with | [_, _], _ => rfl), S__law_like, C__law_like⟩⟩
theorem D__law_name (X : K.In h) (G : h.Ns mainGlobals mg) (c : He.SaysD fa fn K) : DefOk K mg tab gl f__law_name := by
  obtain ⟨fd, F⟩ := c.def_ 32 (d := dd "_law_name" 47) rfl
  exact ⟨⟨_, fd, _, _, _, _, _, glo_f X G c (List.mem_of_getElem? (i := 32) rfl), F, F.bindsN (fun _ _ _ _ _ _ us hl => match us, hl with | [_, _], _ => rfl), S__law_name, C__law_name⟩⟩
theorem D__law_names (X : K.In h) (G : h.Ns mainGlobals mg) (c : He.SaysD fa fn K) : DefOk K mg tab gl f__law_names := by
  obtain ⟨fd, F⟩ := c.def_ 33 (d := dd "_law_names" 48) rfl
  exact ⟨⟨_, fd, _, _, _, _, _, glo_f X G c (List.mem_of_getElem? (i := 33) rfl), F, F.bindsN (fun _ _ _ _ _ _ us hl => match us, hl with | [_, _], _ => rfl), S__law_names, C__law_names⟩⟩
theorem D__law_fields (X : K.In h) (G : h.Ns mainGlobals mg) (c : He.SaysD fa fn K) : DefOk K mg tab gl f__law_fields := by
  obtain ⟨fd, F⟩ := c.def_ 34 (d := dd "_law_fields" 49) rfl
  exact ⟨⟨_, fd, _, _, _, _, _, glo_f X G c (List.mem_of_getElem? (i := 34) rfl), F, F.bindsN (fun _ _ _ _ _ _ us hl => match us, hl with | [_, _, _], _ => rfl), S__law_fields, C__law_fields⟩⟩
theorem D__law_least (X : K.In h) (G : h.Ns mainGlobals mg) (c : He.SaysD fa fn K) : DefOk K mg tab gl f__law_least := by
  obtain ⟨fd, F⟩ := c.def_ 35 (d := dd "_law_least" 50) rfl
  exact ⟨⟨_, fd, _, _, _, _, _, glo_f X G c (List.mem_of_getElem? (i := 35) rfl), F, F.bindsN (fun _ _ _ _ _ _ us hl => match us, hl with | [_, _], _ => rfl), S__law_least, C__law_least⟩⟩
theorem D__law_behind (X : K.In h) (G : h.Ns mainGlobals mg) (c : He.SaysD fa fn K) : DefOk K mg tab gl f__law_behind := by
  obtain ⟨fd, F⟩ := c.def_ 36 (d := dd "_law_behind" 51) rfl
  exact ⟨⟨_, fd, _, _, _, _, _, glo_f X G c (List.mem_of_getElem? (i := 36) rfl), F, F.bindsN (fun _ _ _ _ _ _ us hl => match us, hl with | [_, _, _], _ => rfl), S__law_behind, C__law_behind⟩⟩
theorem D__law_are_fields (X : K.In h) (G : h.Ns mainGlobals mg) (c : He.SaysD fa fn K) : DefOk K mg tab gl f__law_are_fields := by
  obtain ⟨fd, F⟩ := c.def_ 37 (d := dd "_law_are_fields" 52) rfl
  exact ⟨⟨_, fd, _, _, _, _, _, glo_f X G c (List.mem_of_getElem? (i := 37) rfl), F, F.bindsN (fun _ _ _ _ _ _ us hl => match us, hl with | [_], _ => rfl), S__law_are_fields, C__law_are_fields⟩⟩
theorem D__law_is_round (X : K.In h) (G : h.Ns mainGlobals mg) (c : He.SaysD fa fn K) : DefOk K mg tab gl f__law_is_round := by
  obtain ⟨fd, F⟩ := c.def_ 38 (d := dd "_law_is_round" 53) rfl
  exact ⟨⟨_, fd, _, _, _, _, _, glo_f X G c (List.mem_of_getElem? (i := 38) rfl), F, F.bindsN (fun _ _ _ _ _ _ us hl => match us, hl with | [_, _, _], _ => rfl), S__law_is_round, C__law_is_round⟩⟩
theorem D__law_longest (X : K.In h) (G : h.Ns mainGlobals mg) (c : He.SaysD fa fn K) : DefOk K mg tab gl f__law_longest := by
  obtain ⟨fd, F⟩ := c.def_ 39 (d := dd "_law_longest" 54) rfl
  exact ⟨⟨_, fd, _, _, _, _, _, glo_f X G c (List.mem_of_getElem? (i := 39) rfl), F, F.bindsN (fun _ _ _ _ _ _ us hl => match us, hl with | [_, _], _ => rfl), S__law_longest, C__law_longest⟩⟩
theorem D__law_is_good (X : K.In h) (G : h.Ns mainGlobals mg) (c : He.SaysD fa fn K) : DefOk K mg tab gl f__law_is_good := by
  obtain ⟨fd, F⟩ := c.def_ 40 (d := dd "_law_is_good" 55) rfl
  exact ⟨⟨_, fd, _, _, _, _, _, glo_f X G c (List.mem_of_getElem? (i := 40) rfl), F, F.bindsN (fun _ _ _ _ _ _ us hl => match us, hl with | [_, _, _], _ => rfl), S__law_is_good, C__law_is_good⟩⟩
theorem D__law_played (X : K.In h) (G : h.Ns mainGlobals mg) (c : He.SaysD fa fn K) : DefOk K mg tab gl f__law_played := by
  obtain ⟨fd, F⟩ := c.def_ 41 (d := dd "_law_played" 56) rfl
  exact ⟨⟨_, fd, _, _, _, _, _, glo_f X G c (List.mem_of_getElem? (i := 41) rfl), F, F.bindsN (fun _ _ _ _ _ _ us hl => match us, hl with | [_, _, _], _ => rfl), S__law_played, C__law_played⟩⟩
theorem D__law_near (X : K.In h) (G : h.Ns mainGlobals mg) (c : He.SaysD fa fn K) : DefOk K mg tab gl f__law_near := by
  obtain ⟨fd, F⟩ := c.def_ 42 (d := dd "_law_near" 57) rfl
  exact ⟨⟨_, fd, _, _, _, _, _, glo_f X G c (List.mem_of_getElem? (i := 42) rfl), F, F.bindsN (fun _ _ _ _ _ _ us hl => match us, hl with | [_, _, _, _], _ => rfl), S__law_near, C__law_near⟩⟩
theorem D__law_right (X : K.In h) (G : h.Ns mainGlobals mg) (c : He.SaysD fa fn K) : DefOk K mg tab gl f__law_right := by
  obtain ⟨fd, F⟩ := c.def_ 43 (d := dd "_law_right" 58) rfl
  exact ⟨⟨_, fd, _, _, _, _, _, glo_f X G c (List.mem_of_getElem? (i := 43) rfl), F, F.bindsN (fun _ _ _ _ _ _ us hl => match us, hl with | [_, _], _ => rfl), S__law_right, C__law_right⟩⟩
theorem D__law_written (X : K.In h) (G : h.Ns mainGlobals mg) (c : He.SaysD fa fn K) : DefOk K mg tab gl f__law_written := by
  obtain ⟨fd, F⟩ := c.def_ 44 (d := dd "_law_written" 59) rfl
  exact ⟨⟨_, fd, _, _, _, _, _, glo_f X G c (List.mem_of_getElem? (i := 44) rfl), F, F.bindsN (fun _ _ _ _ _ _ us hl => match us, hl with | [_], _ => rfl), S__law_written, C__law_written⟩⟩
theorem D__law_written_right (X : K.In h) (G : h.Ns mainGlobals mg) (c : He.SaysD fa fn K) : DefOk K mg tab gl f__law_written_right := by
  obtain ⟨fd, F⟩ := c.def_ 45 (d := dd "_law_written_right" 60) rfl
  exact ⟨⟨_, fd, _, _, _, _, _, glo_f X G c (List.mem_of_getElem? (i := 45) rfl), F, F.bindsN (fun _ _ _ _ _ _ us hl => match us, hl with | [], _ => rfl), S__law_written_right, C__law_written_right⟩⟩
theorem D_law (X : K.In h) (G : h.Ns mainGlobals mg) (c : He.SaysD fa fn K) : DefOk K mg tab gl f_law := by
  obtain ⟨fd, F⟩ := c.def_ 46 (d := dd "law" 61) rfl
  exact ⟨⟨_, fd, _, _, _, _, _, glo_f X G c (List.mem_of_getElem? (i := 46) rfl), F, F.bindsN (fun _ _ _ _ _ _ us hl => match us, hl with | [_], _ => rfl), S_law, C_law⟩⟩
theorem defs_f (X : K.In h) (G : h.Ns mainGlobals mg) (c : He.SaysD fa fn K) : ∀ fn ∈ tab, DefOk K mg tab gl fn := List.forall_mem_cons.mpr ⟨D_is_whole X G c, List.forall_mem_cons.mpr ⟨D_is_tuple_of X G c, List.forall_mem_cons.mpr ⟨D_divisor_of X G c, List.forall_mem_cons.mpr ⟨D_reduced X G c, List.forall_mem_cons.mpr ⟨D_added X G c, List.forall_mem_cons.mpr ⟨D_added_up X G c, List.forall_mem_cons.mpr ⟨D_is_rising X G c, List.forall_mem_cons.mpr ⟨D_is_name X G c, List.forall_mem_cons.mpr ⟨D_is_among X G c, List.forall_mem_cons.mpr ⟨D_fits_fields X G c, List.forall_mem_cons.mpr ⟨D_need_fields X G c, List.forall_mem_cons.mpr ⟨D_need_many X G c, List.forall_mem_cons.mpr ⟨D_names_of X G c, List.forall_mem_cons.mpr ⟨D_fits_day X G c, List.forall_mem_cons.mpr ⟨D_fits_round X G c, List.forall_mem_cons.mpr ⟨D_wait_in X G c, List.forall_mem_cons.mpr ⟨D_fits_good X G c, List.forall_mem_cons.mpr ⟨D_fits_waits X G c, List.forall_mem_cons.mpr ⟨D_need_waits X G c, List.forall_mem_cons.mpr ⟨D_behind X G c, List.forall_mem_cons.mpr ⟨D_are_fields X G c, List.forall_mem_cons.mpr ⟨D_density X G c, List.forall_mem_cons.mpr ⟨D_is_round X G c, List.forall_mem_cons.mpr ⟨D_is_good X G c, List.forall_mem_cons.mpr ⟨D_need_round X G c, List.forall_mem_cons.mpr ⟨D_longest_wait X G c, List.forall_mem_cons.mpr ⟨D_waits_behind X G c, List.forall_mem_cons.mpr ⟨D__law_cup X G c, List.forall_mem_cons.mpr ⟨D__law_roll X G c, List.forall_mem_cons.mpr ⟨D__law_some X G c, List.forall_mem_cons.mpr ⟨D__law_sort X G c, List.forall_mem_cons.mpr ⟨D__law_like X G c, List.forall_mem_cons.mpr ⟨D__law_name X G c, List.forall_mem_cons.mpr ⟨D__law_names X G c, List.forall_mem_cons.mpr ⟨D__law_fields X G c, List.forall_mem_cons.mpr ⟨D__law_least X G c, List.forall_mem_cons.mpr ⟨D__law_behind X G c, List.forall_mem_cons.mpr ⟨D__law_are_fields X G c, List.forall_mem_cons.mpr ⟨D__law_is_round X G c, List.forall_mem_cons.mpr ⟨D__law_longest X G c, List.forall_mem_cons.mpr ⟨D__law_is_good X G c, List.forall_mem_cons.mpr ⟨D__law_played X G c, List.forall_mem_cons.mpr ⟨D__law_near X G c, List.forall_mem_cons.mpr ⟨D__law_right X G c, List.forall_mem_cons.mpr ⟨D__law_written X G c, List.forall_mem_cons.mpr ⟨D__law_written_right X G c, List.forall_mem_cons.mpr ⟨D_law X G c, fun _ hp => nomatch hp⟩⟩⟩⟩⟩⟩⟩⟩⟩⟩⟩⟩⟩⟩⟩⟩⟩⟩⟩⟩⟩⟩⟩⟩⟩⟩⟩⟩⟩⟩⟩⟩⟩⟩⟩⟩⟩⟩⟩⟩⟩⟩⟩⟩⟩⟩⟩
theorem facts {f : Addr} (X : K.In h) (G : h.Ns mainGlobals mg) (hfa : mg ("law" : Str) = some (.ref f)) (c : He.SaysD fa fn K) :
    ∃ fd : FuncData, (∀ (s : Shared) (v : Value), BindsTo s fd ⟨[v], []⟩ [("script", v)]) ∧ ∀ base : Heap, K.In base → base.Ns mainGlobals mg → FnOk P w K mg base CX0 100 f fd ["script"] (spOf K (Phi tab 1000000 100 46)) := by
  obtain ⟨fd, F⟩ := c.def_ 46 (d := dd "law" 61) rfl
  have e := hfa.symm.trans (glo_f X G c (f := f_law) (List.mem_of_getElem? (i := 46) rfl))
  cases e
  have b := FunD.bindsA (ps := ["script"]) F fun _ _ _ _ _ _ us hl => match us, hl with | [_], _ => rfl
  exact ⟨fd, fun s v => b s [v] rfl, fun base _ _ => fn_step (base_f X G c) (fns_ok (base_f X G c) (defs_f X G c) 99) F S_law C_law⟩
end
theorem promise {K : PySem.W.Frag} {H : Hp} {a : Addr} {ns : List Int} (hl : ∃ st, Phi tab 1000000 100 46 [.scr ns] [] = .ok (.bl true) st) (hO : Only H) (hS : SqL K H a (ns.map V.int)) (E : XK) : spOf K (Phi tab 1000000 100 46) [.ref a] H (fun v _ => v = .bl true) E := by
  obtain ⟨st, e⟩ := hl
  refine ⟨fun _ => False, [], [], [.scr ns], ⟨rfl, fun i j a h => by simp at h, fun n a c h => by simp at h, fun a h => by simp at h, fun a h => h.elim⟩, .cons (.scr ?_) .nil, ?_⟩
  · rcases hS with hS | hS
    · rcases hS with hS | ⟨o, hS⟩
      · rcases hO a with q | ⟨o, xs, q⟩
        · rw [q] at hS; cases hS
        · rw [q] at hS; cases hS
      · exact .inl ⟨o, hS, fun q => by rcases q with q | q; exact nomatch q; exact q⟩
    · exact .inr hS
  · rw [e]
    intro v H' μ' _ _ r
    cases r
    rfl
end K80
open PySem PySem.W PySem.Calls PyProof.Rows
theorem K80_of (law_true : ∀ ns : List Int, ns.length ≤ 63 → ∃ st, Fw.Phi K80.tab 1000000 100 46 [.scr ns] [] = .ok (.bl true) st) : PySem.Challenge.rw_fieldwaters_k80_whole_fields_and_rounds.Holds := by
  w_on; o_law
  refine HandSHeadRun.head_any (r := OpenLaw.row PySem.Challenge.rw_fieldwaters_k80_whole_fields_and_rounds) (q := view (OpenLaw.row PySem.Challenge.rw_fieldwaters_k80_whole_fields_and_rounds).prog [61]) (H := K80.hk) (ob := K80.ob) (M := 8000) (loose := K80.ls0 ++ K80.ls1 ++ K80.ls2 ++ K80.ls3) (d := HandSHeadRun.topDef (OpenLaw.row PySem.Challenge.rw_fieldwaters_k80_whole_fields_and_rounds).prog 61) (kwd := []) K80.ob_eq
    (by kernel_rfl) (fun s => by kernel_rfl) K80.run (by kernel_rfl) (by kernel_rfl) (by kernel_rfl) (by rfl) (by first | assumption | decide +kernel) (by decide +kernel) ⟨rfl, rfl, rfl, rfl, rfl, by decide +kernel⟩ ?hw ?hc
  case hw => w_witness2
  case hc =>
    refine L2.walk_ofE (l := PySem.Challenge.rw_fieldwaters_k80_whole_fields_and_rounds) (n := 63) (k := 100) (x := "script") (CX := L2.CX0) rfl (by decide) (by kernel_rfl) ⟨rfl, by decide, by decide⟩ ?F (fun _ _ _ _ z => z)
    intro w mg fa h Y G hmg0
    obtain ⟨K, KX, c⟩ := Y
    have hmg : mg ("law" : PySem.Str) = some (.ref fa) := by
      have e : (HandSHeadRun.topDef (OpenLaw.row PySem.Challenge.rw_fieldwaters_k80_whole_fields_and_rounds).prog 61).name = ("law" : PySem.Str) := by kernel_rfl
      rw [← e]
      exact hmg0
    obtain ⟨fd, hb, hF⟩ := K80.facts (P := (PySem.Challenge.rw_fieldwaters_k80_whole_fields_and_rounds).prog) (w := w) KX G hmg c
    exact ⟨K, fd, Fw.spOf K (Fw.Phi K80.tab 1000000 100 46), KX, hb, fun H a ns hl hO hS => K80.promise (law_true ns hl) hO hS _, hF⟩
end
-- M1
section
set_option maxRecDepth 100000
set_option maxHeartbeats 4000000
set_option linter.all false
namespace K80
open PySem Fw
abbrev Ph fu (k : Nat) := Phi tab fu k
/-! the library's functions, as plain ones -/
def isTupN (v : Dat) (lo hi : Int) : Bool := match v with
  | .tup ds => decide (lo ≤ (ds.length : Int)) && decide ((ds.length : Int) ≤ hi)
  | _ => false
def isWholeN (v : Dat) (lo hi : Int) : Bool := match v with
  | .int i => decide (lo ≤ i) && decide (i ≤ hi)
  | _ => false
def risingN : List Str → Bool
  | a :: b :: r => ltS a b && risingN (b :: r)
  | _ => true
theorem risingN_zip : ∀ zs : List Str, (zs.zip zs.tail).all (fun p => ltS p.1 p.2) = risingN zs
  | [] => rfl
  | [_] => rfl
  | a :: b :: r => by
    have := risingN_zip (b :: r)
    simp only [List.tail_cons, List.zip_cons_cons, List.all_cons, risingN] at *
    rw [this]
def plain : Dat → Bool
  | .ref _ => false
  | .scr _ => false
  | _ => true
section
variable {fu k : Nat} {st : Store}
theorem s_is_tuple_of {v : Dat} {lo hi : Int} (h : plain v = true) : Ph fu (k + 1) 1 [v, .int lo, .int hi] st = .ok (.bl (isTupN v lo hi)) st := by
  rw [Ph, phi_ap (fn := f_is_tuple_of) rfl rfl]
  cases v <;> first | (exact absurd h Bool.false_ne_true) | simp [f_is_tuple_of, b_is_tuple_of, isTupN]
theorem s_is_whole {v : Dat} {lo hi : Int} (h : plain v = true) : Ph fu (k + 1) 0 [v, .int lo, .int hi] st = .ok (.bl (isWholeN v lo hi)) st := by
  rw [Ph, phi_ap (fn := f_is_whole) rfl rfl]
  cases v <;> first | (exact absurd h Bool.false_ne_true) | simp [f_is_whole, b_is_whole, isWholeN]
theorem s_is_rising_t {zs : List Str} (h : zs.length ≤ 1000000) : Ph fu (k + 1) 6 [.tup (zs.map Dat.str)] st = .ok (.bl (risingN zs)) st := by
  rw [Ph, phi_ap (fn := f_is_rising) rfl rfl]
  simp [f_is_rising, b_is_rising]
  rw [map_tail', zipD_map, compL_some (h := fun p => Dat.bl (ltS p.1 p.2))]
  · simp
    rw [sized_ok (le_size (by simp; omega))]
    simp [rb_all_map, risingN_zip]
  · rintro ⟨a, b⟩ _
    simp [compB]
theorem s_is_rising_l {zs : List Str} (h : zs.length ≤ 1000000) : Ph fu (k + 1) 6 [.lst (zs.map Dat.str)] st = .ok (.bl (risingN zs)) st := by
  rw [Ph, phi_ap (fn := f_is_rising) rfl rfl]
  simp [f_is_rising, b_is_rising]
  rw [map_tail', zipD_map, compL_some (h := fun p => Dat.bl (ltS p.1 p.2))]
  · simp
    rw [sized_ok (le_size (by simp; omega))]
    simp [rb_all_map, risingN_zip]
  · rintro ⟨a, b⟩ _
    simp [compB]
end
end K80
namespace K80
open PySem Fw
def letters : Str := "abcdefghijklmnopqrstuvwxyz"
def digits : Str := "0123456789"
def alnum (c : Nat) : Bool := decide (c ∈ letters.cps.toList) || decide (c ∈ digits.cps.toList)
def isNameL (l : List Nat) : Bool := match l with
  | [] => false
  | c :: _ => decide (l.length ≤ 12) && (decide (c ∈ letters.cps.toList) && l.all alnum)
def isNameN (v : Dat) : Bool := match v with
  | .str x => isNameL x.cps.toList
  | _ => false
def okS : Dat → Bool
  | .str x => decide (x.length ≤ 1000000)
  | .ref _ => false
  | .scr _ => false
  | _ => true
section
variable {fu k : Nat} {st : Store}
theorem len_ok {x : Str} (h : x.length ≤ 1000000) : opBi st .len [.str x] = some (.int x.length) := by rw [len_str, if_pos (le_size h)]
theorem s_is_name {v : Dat} (h : okS v = true) : Ph fu (k + 1) 7 [v] st = .ok (.bl (isNameN v)) st := by
  rw [Ph, phi_ap (fn := f_is_name) rfl rfl]
  cases v <;> first | (exact absurd h Bool.false_ne_true) | skip
  case str x =>
    have hl : x.length ≤ 1000000 := of_decide_eq_true h
    have e : (x.length : Int) = x.cps.toList.length := by simp [Str.length]
    have e' : x.length = x.cps.toList.length := by simp [Str.length]
    cases hx : x.cps.toList with
    | nil =>
      rw [hx] at e
      simp [f_is_name, b_is_name, len_ok hl, e, isNameN, hx, isNameL]
    | cons c cs =>
      by_cases h12 : x.length ≤ 12
      · have e1 : (1 : Int) ≤ x.length := by rw [e, hx, List.length_cons]; omega
        have e2 : (x.length : Int) ≤ 12 := by omega
        have h0 : L2.atI x.cps.toList 0 = some c := by rw [hx]; simp
        have hi : opIn st (chD c) (.str letters) = some (decide (c ∈ letters.cps.toList)) := in_str_one
        simp only [letters] at hi
        by_cases hc : c ∈ letters.cps.toList
        · simp only [letters] at hc
          simp [f_is_name, b_is_name, len_ok hl, ix_str, le_size hl, cmp_in, cmp_notin, e1, e2, h0, hi, hc]
          rw [compL_some (h := fun c => Dat.bl (alnum c))]
          · simp
            rw [sized_ok (le_size (by rw [List.length_map, ← e']; exact hl))]
            simp [rb_all_map, isNameN, hx, isNameL, letters, hc]
            have hall : opBi st .all [.lst (Dat.bl (alnum c) :: cs.map fun c => Dat.bl (alnum c))] = some (.bl ((c :: cs).all alnum)) := rb_all_map (c :: cs) alnum
            have h11 : cs.length ≤ 11 := by rw [e', hx, List.length_cons] at h12; omega
            simp [hall, h11]
          · intro c _
            have hi1 : opIn st (chD c) (.str letters) = some (decide (c ∈ letters.cps.toList)) := in_str_one
            have hi2 : opIn st (chD c) (.str digits) = some (decide (c ∈ digits.cps.toList)) := in_str_one
            simp only [letters, digits] at hi1 hi2
            simp [compB, cmp_in, hi1, hi2, alnum, letters, digits]
        · simp only [letters] at hc
          simp [f_is_name, b_is_name, len_ok hl, ix_str, le_size hl, cmp_in, cmp_notin, e1, e2, h0, hi, hc, isNameN, hx, isNameL, letters]
      · have e2 : ¬ (x.length : Int) ≤ 12 := by omega
        have e3 : ¬ cs.length + 1 ≤ 12 := by rw [e, hx, List.length_cons] at e2; omega
        simp [f_is_name, b_is_name, len_ok hl, e2, isNameN, hx, isNameL, e3]
  all_goals simp [f_is_name, b_is_name, isNameN]
end
end K80

namespace K80
open PySem Fw
/-! a day, a round -/
def fD (fs : List (Str × Int)) : List Dat := fs.map fun p => .tup [.str p.1, .int p.2]
def sD (zs : List Str) : List Dat := zs.map Dat.str
def amongN (names : List Str) (v : Dat) : Bool := match v with
  | .str x => decide (x ∈ names)
  | _ => false
def strsN (ds : List Dat) : List Str := ds.filterMap fun d => match d with
  | .str x => some x
  | _ => none
def fitsDayN (names : List Str) (many : Int) (v : Dat) : Bool := match v with
  | .tup ds => decide ((ds.length : Int) ≤ many) && (ds.all (amongN names) && risingN (strsN ds))
  | _ => false
section
variable {fu k : Nat} {st : Store}
theorem s_is_among {v : Dat} {names : List Str} (h : plain v = true) : Ph fu (k + 1) 8 [v, .tup (sD names)] st = .ok (.bl (amongN names v)) st := by
  rw [Ph, phi_ap (fn := f_is_among) rfl rfl]
  cases v <;> first | (exact absurd h Bool.false_ne_true) | simp [f_is_among, b_is_among, amongN, cmp_in, in_tup_strs, sD]
theorem s_names_of {fs : List (Str × Int)} (h : fs.length ≤ 1000000) : Ph fu (k + 1) 12 [.tup (fD fs)] st = .ok (.tup (sD (fs.map (·.1)))) st := by
  rw [Ph, phi_ap (fn := f_names_of) rfl rfl]
  simp [f_names_of, b_names_of, fD]
  rw [compL_some (h := fun p => Dat.str p.1)]
  · simp
    rw [sized_ok (le_size (by simpa using h))]
    simp [sD]
  · intro p _
    simp [compB]
theorem strs_all {names : List Str} : ∀ {ds : List Dat}, ds.all (amongN names) = true → ds = sD (strsN ds)
  | [], _ => rfl
  | d :: ds, h => by
    rw [List.all_cons, Bool.and_eq_true] at h
    have ih := strs_all h.2
    cases d <;> first | (exact absurd h.1 Bool.false_ne_true) | skip
    show _ = sD (_ :: strsN ds)
    unfold sD at ih ⊢
    rw [List.map_cons, ← ih]
def plains (ds : List Dat) : Prop := ∀ d ∈ ds, plain d = true
theorem s_fits_day {fs : List (Str × Int)} {many : Int} {v : Dat} (hf : fs.length ≤ 1000000) (hm : many ≤ 1000) (h : plain v = true) (hs : ∀ ds, v = .tup ds → plains ds) :
    Ph fu (k + 3) 13 [.tup (fD fs), .int many, v] st = .ok (.bl (fitsDayN (fs.map (·.1)) many v)) st := by
  rw [Ph, phi_ap (fn := f_fits_day) rfl rfl]
  have h1 := s_is_tuple_of (fu := fu) (k := k + 1) (st := st) (lo := 0) (hi := many) h
  have h2 := s_names_of (fu := fu) (k := k + 1) (st := st) hf
  simp only [Ph] at h1 h2
  cases hT : isTupN v 0 many with
  | false =>
    rw [hT] at h1
    have e : fitsDayN (fs.map (·.1)) many v = false := by
      cases v <;> first | rfl | skip
      unfold isTupN at hT
      simp at hT
      simp [fitsDayN]
      intro q
      omega
    simp [f_fits_day, b_fits_day, h1, e]
  | true =>
    rw [hT] at h1
    cases v <;> first | (exact absurd hT Bool.false_ne_true) | skip
    rename_i ds
    unfold isTupN at hT
    simp at hT
    have hl : ds.length ≤ 1000 := by omega
    have hall : compL (compB (Phi tab fu (k + 2)) [3] (.call 8 (.cons (.var 3) (.cons (.call 12 (.cons (.var 0) .nil)) .nil))) (.var 3) .nil [.v (.tup (fD fs)), .v (.int many), .v (.tup ds), .un]) ds st = .ok (ds.map fun d => Dat.bl (amongN (fs.map (·.1)) d)) st := by
      refine compL_ids fun d hd => ?_
      have h3 := s_is_among (fu := fu) (k := k + 1) (st := st) (names := fs.map (·.1)) (hs ds rfl d hd)
      simp only [Ph] at h3
      simp [compB, h2, h3]
    simp [f_fits_day, b_fits_day, h1]
    rw [hall]
    simp
    rw [sized_ok (le_size (by simp; omega))]
    simp only [ofO_some, nox_ok, bd_ok, rb_all_map]
    cases ha : ds.all (amongN (fs.map (·.1))) with
    | true =>
      have e := strs_all ha
      have hz : (strsN ds).length ≤ 1000000 := by
        have := congrArg List.length e
        simp [sD] at this
        omega
      have h4 := s_is_rising_t (fu := fu) (k := k + 1) (st := st) hz
      have e' : Dat.tup ((strsN ds).map Dat.str) = .tup ds := congrArg Dat.tup e.symm
      rw [e'] at h4
      simp only [Ph] at h4
      have e2 : fitsDayN (fs.map (·.1)) many (.tup ds) = risingN (strsN ds) := by
        show (decide ((ds.length : Int) ≤ many) && (ds.all (amongN (fs.map (·.1))) && risingN (strsN ds))) = _
        rw [ha, decide_eq_true (by omega)]
        rfl
      rw [e2]
      simp [h4]
    | false =>
      have e2 : fitsDayN (fs.map (·.1)) many (.tup ds) = false := by
        show (decide ((ds.length : Int) ≤ many) && (ds.all (amongN (fs.map (·.1))) && risingN (strsN ds))) = _
        rw [ha, Bool.false_and, Bool.and_false]
      rw [e2]
      simp
end
end K80
end
-- M2
section
set_option maxRecDepth 100000
set_option maxHeartbeats 4000000
set_option linter.all false
set_option Elab.async false
namespace K80
open PySem Fw
def gd0 (p : Dat → Prop) : Dat → Prop
  | .ref _ => False
  | .scr _ => False
  | .str x => x.length ≤ 1000 ∧ x.cps.all (· < 0x110000) = true
  | .tup ds => ds.length ≤ 100000 ∧ ∀ d ∈ ds, p d
  | .lst ds => ds.length ≤ 100000 ∧ ∀ d ∈ ds, p d
  | _ => True
/-- a value without cells, of that depth at most, of no great size -/
def gd : Nat → Dat → Prop
  | 0 => gd0 fun _ => False
  | n + 1 => gd0 (gd n)
theorem gd.plain {n : Nat} {d : Dat} (h : gd n d) : plain d = true := by
  cases n <;> cases d <;> first | rfl | exact h.elim
theorem gd.okS {n : Nat} {d : Dat} (h : gd n d) : okS d = true := by
  cases n <;> cases d <;> first | rfl | exact h.elim | (exact decide_eq_true (Nat.le_trans h.1 (by decide)))
theorem gd.tup {n : Nat} {ds : List Dat} (h : gd (n + 1) (.tup ds)) : ∀ d ∈ ds, gd n d := h.2
theorem gd.lst {n : Nat} {ds : List Dat} (h : gd (n + 1) (.lst ds)) : ∀ d ∈ ds, gd n d := h.2
theorem gd.plains {n : Nat} {v : Dat} (h : gd (n + 1) v) (ds : List Dat) (e : v = .tup ds) : plains ds := by
  subst e
  exact fun d hd => (h.tup d hd).plain
def fitsRoundN (names : List Str) (many : Int) (v : Dat) : Bool := match v with
  | .tup ds => decide (1 ≤ ds.length) && decide (ds.length ≤ 2000) && ds.all (fitsDayN names many)
  | _ => false
def fst2 : Dat → Dat
  | .tup (x :: _) => x
  | _ => .non
def snd2 : Dat → Dat
  | .tup (_ :: y :: _) => y
  | _ => .non
theorem two_of {d : Dat} (h : isTupN d 2 2 = true) : d = .tup [fst2 d, snd2 d] := by
  cases d <;> first | (exact absurd h Bool.false_ne_true) | skip
  rename_i ds
  unfold isTupN at h
  simp at h
  match ds, h with
  | [], h => simp at h
  | [a], h => simp at h
  | [a, b], _ => rfl
  | a :: b :: c :: r, h => simp at h; omega
def fieldsN (v : Dat) : Bool := match v with
  | .tup ds => decide (1 ≤ ds.length) && decide (ds.length ≤ 8) && (ds.all (fun d => isTupN d 2 2) && (ds.all (fun d => isNameN (fst2 d) && isWholeN (snd2 d) 1 12) && risingN (strsN (ds.map fst2))))
  | _ => false
theorem names_strs {f : Dat → Dat} : ∀ {ds : List Dat}, (∀ d ∈ ds, isNameN (f d) = true) → ds.map f = sD (strsN (ds.map f))
  | [], _ => rfl
  | d :: ds, hb => by
    have h1 := hb d List.mem_cons_self
    have ih := names_strs fun d hd => hb d (List.mem_cons_of_mem _ hd)
    rw [List.map_cons]
    cases hf : f d <;> rw [hf] at h1 <;> first | (exact absurd h1 Bool.false_ne_true) | skip
    rename_i x
    show _ :: _ = sD (x :: strsN (ds.map f))
    unfold sD at ih ⊢
    rw [List.map_cons, ← ih]
section
variable {fu k : Nat} {st : Store}
theorem s_fits_round {fs : List (Str × Int)} {many : Int} {v : Dat} {n : Nat} (hf : fs.length ≤ 1000000) (hm : many ≤ 1000) (h : gd (n + 2) v) :
    Ph fu (k + 4) 14 [.tup (fD fs), .int many, v] st = .ok (.bl (fitsRoundN (fs.map (·.1)) many v)) st := by
  rw [Ph, phi_ap (fn := f_fits_round) rfl rfl]
  have h1 := s_is_tuple_of (fu := fu) (k := k + 2) (st := st) (lo := 1) (hi := 2000) h.plain
  simp only [Ph] at h1
  cases hT : isTupN v 1 2000 with
  | false =>
    rw [hT] at h1
    have e : fitsRoundN (fs.map (·.1)) many v = false := by
      cases v <;> first | rfl | skip
      rename_i ds
      have hT' : (decide ((1 : Int) ≤ (ds.length : Int)) && decide ((ds.length : Int) ≤ 2000)) = false := hT
      show (decide (1 ≤ ds.length) && decide (ds.length ≤ 2000) && _) = false
      rw [Bool.and_eq_false_iff] at hT'
      rcases hT' with q | q
      · rw [decide_eq_false (by have := of_decide_eq_false q; omega)]; rfl
      · rw [show decide (ds.length ≤ 2000) = false from decide_eq_false (by have := of_decide_eq_false q; omega)]; simp
    simp [f_fits_round, b_fits_round, h1, e]
  | true =>
    rw [hT] at h1
    cases v <;> first | (exact absurd hT Bool.false_ne_true) | skip
    rename_i ds
    unfold isTupN at hT
    simp at hT
    have hall : compL (compB (Phi tab fu (k + 3)) [3] (.call 13 (.cons (.var 0) (.cons (.var 1) (.cons (.var 3) .nil)))) (.var 3) .nil [.v (.tup (fD fs)), .v (.int many), .v (.tup ds), .un]) ds st = .ok (ds.map fun d => Dat.bl (fitsDayN (fs.map (·.1)) many d)) st := by
      refine compL_ids fun d hd => ?_
      have h3 := s_fits_day (fu := fu) (k := k) (st := st) hf hm (h.tup d hd).plain ((h.tup d hd).plains)
      simp only [Ph] at h3
      simp [compB, h3]
    simp [f_fits_round, b_fits_round, h1]
    rw [hall]
    simp
    rw [sized_ok (le_size (by simp; omega))]
    simp only [ofO_some, nox_ok, bd_ok, rb_all_map]
    have e2 : fitsRoundN (fs.map (·.1)) many (.tup ds) = ds.all (fitsDayN (fs.map (·.1)) many) := by
      show (decide (1 ≤ ds.length) && decide (ds.length ≤ 2000) && _) = _
      rw [decide_eq_true (by omega), decide_eq_true (by omega)]
      rfl
    rw [e2]
    simp
theorem fits_stuck {fs : List (Str × Int)} : True := trivial
theorem s_fits_fields {v : Dat} {n : Nat} (h : gd (n + 2) v) : Ph fu (k + 3) 9 [v] st = .ok (.bl (fieldsN v)) st := by
  rw [Ph, phi_ap (fn := f_fits_fields) rfl rfl]
  have h1 := s_is_tuple_of (fu := fu) (k := k + 1) (st := st) (lo := 1) (hi := 8) h.plain
  simp only [Ph] at h1
  cases hT : isTupN v 1 8 with
  | false =>
    rw [hT] at h1
    have e : fieldsN v = false := by
      cases v <;> first | rfl | skip
      rename_i ds
      have hT' : (decide ((1 : Int) ≤ (ds.length : Int)) && decide ((ds.length : Int) ≤ 8)) = false := hT
      show (decide (1 ≤ ds.length) && decide (ds.length ≤ 8) && _) = false
      rw [Bool.and_eq_false_iff] at hT'
      rcases hT' with q | q
      · rw [decide_eq_false (by have := of_decide_eq_false q; omega)]; rfl
      · rw [show decide (ds.length ≤ 8) = false from decide_eq_false (by have := of_decide_eq_false q; omega)]; simp
    simp [f_fits_fields, b_fits_fields, h1, e]
  | true =>
    rw [hT] at h1
    cases v <;> first | (exact absurd hT Bool.false_ne_true) | skip
    rename_i ds
    unfold isTupN at hT
    simp at hT
    have hl : ds.length ≤ 1000000 := by omega
    have hA : compL (compB (Phi tab fu (k + 2)) [1] (.call 1 (.cons (.var 1) (.cons (.int 2) (.cons (.int 2) .nil)))) (.var 1) .nil [.v (.tup ds), .un]) ds st = .ok (ds.map fun d => Dat.bl (isTupN d 2 2)) st := by
      refine compL_ids fun d hd => ?_
      have h3 := s_is_tuple_of (fu := fu) (k := k + 1) (st := st) (lo := 2) (hi := 2) (h.tup d hd).plain
      simp only [Ph] at h3
      simp [compB, h3]
    have e0 : fieldsN (.tup ds) = (ds.all (fun d => isTupN d 2 2) && (ds.all (fun d => isNameN (fst2 d) && isWholeN (snd2 d) 1 12) && risingN (strsN (ds.map fst2)))) := by
      show (decide (1 ≤ ds.length) && decide (ds.length ≤ 8) && _) = _
      rw [decide_eq_true (by omega), decide_eq_true (by omega)]
      rfl
    simp [f_fits_fields, b_fits_fields, h1]
    rw [hA]
    simp
    rw [sized_ok (le_size (by simp; omega))]
    simp only [ofO_some, nox_ok, bd_ok, rb_all_map]
    rw [e0]
    cases hAA : ds.all (fun d => isTupN d 2 2) with
    | false => simp
    | true =>
      have two : ∀ d ∈ ds, d = .tup [fst2 d, snd2 d] := fun d hd => two_of (List.all_eq_true.mp hAA d hd)
      simp
      rw [compL_ids (h := fun d => Dat.bl (isNameN (fst2 d) && isWholeN (snd2 d) 1 12))]
      rotate_left
      · intro d hd
        have g := h.tup d hd
        have e := two d hd
        have g1 : gd n (fst2 d) := by
          rw [e] at g
          exact g.tup _ List.mem_cons_self
        have g2 : gd n (snd2 d) := by
          rw [e] at g
          exact g.tup _ (List.mem_cons_of_mem _ List.mem_cons_self)
        have h3 := s_is_name (fu := fu) (k := k + 1) (st := st) g1.okS
        have h4 := s_is_whole (fu := fu) (k := k + 1) (st := st) (lo := 1) (hi := 12) g2.plain
        generalize fst2 d = x at *
        generalize snd2 d = y at *
        subst e
        simp only [Ph] at h3 h4
        simp [compB, h3, h4]
      simp
      rw [sized_ok (le_size (by simp; omega))]
      simp only [ofO_some, nox_ok, bd_ok, rb_all_map]
      cases hBB : ds.all (fun d => isNameN (fst2 d) && isWholeN (snd2 d) 1 12) with
      | false => simp
      | true =>
        have hs : ds.map fst2 = sD (strsN (ds.map fst2)) := names_strs fun d hd => (Bool.and_eq_true_iff.mp (List.all_eq_true.mp hBB d hd)).1
        have hz : (strsN (ds.map fst2)).length ≤ 1000000 := by
          have := congrArg List.length hs
          simp [sD] at this
          omega
        have h5 := s_is_rising_l (fu := fu) (k := k + 1) (st := st) hz
        unfold sD at hs
        rw [← hs] at h5
        simp only [Ph] at h5
        simp
        rw [compL_ids (h := fst2)]
        rotate_left
        · intro d hd
          have e := two d hd
          generalize fst2 d = x at *
          generalize snd2 d = y at *
          subst e
          simp [compB]
        simp
        rw [sized_ok (le_size (by simp; omega))]
        simp [h5]
end
end K80
end
-- M3
section
set_option maxRecDepth 100000
set_option maxHeartbeats 4000000
set_option linter.all false
set_option Elab.async false
namespace K80
open PySem Fw
theorem shapes {m : Nat} : ∀ {ds : List Dat}, (∀ d ∈ ds, noRef d = true ∧ (toP d).canLay0 = true ∧ (toP d).depth ≤ m) → noRefs ds = true ∧ PyData.canLayAll0 (toPs ds) = true ∧ PyData.depthAll (toPs ds) ≤ m
  | [], _ => ⟨rfl, rfl, Nat.zero_le _⟩
  | d :: ds, h => by
    obtain ⟨a1, a2, a3⟩ := h d List.mem_cons_self
    obtain ⟨b1, b2, b3⟩ := shapes fun d hd => h d (List.mem_cons_of_mem _ hd)
    refine ⟨?_, ?_, ?_⟩
    · show (noRef d && noRefs ds) = true
      rw [a1, b1]; rfl
    · show ((toP d).canLay0 && PyData.canLayAll0 (toPs ds)) = true
      rw [a2, b2]; rfl
    · show max (toP d).depth (PyData.depthAll (toPs ds)) ≤ m
      omega
theorem gd_shape : ∀ (n : Nat) (d : Dat), gd n d → noRef d = true ∧ (toP d).canLay0 = true ∧ (toP d).depth ≤ n + 1
  | n, .non, _ => ⟨rfl, rfl, Nat.zero_le _⟩
  | n, .bl _, _ => ⟨rfl, rfl, Nat.zero_le _⟩
  | n, .int _, _ => ⟨rfl, rfl, Nat.zero_le _⟩
  | n, .str x, h => ⟨rfl, by cases n <;> exact h.2, Nat.zero_le _⟩
  | 0, .tup ds, h => by
    match ds, h with
    | [], _ => exact ⟨rfl, rfl, Nat.le_refl _⟩
    | d :: _, h => exact (h.2 d List.mem_cons_self).elim
  | 0, .lst ds, h => by
    match ds, h with
    | [], _ => exact ⟨rfl, rfl, Nat.le_refl _⟩
    | d :: _, h => exact (h.2 d List.mem_cons_self).elim
  | n + 1, .tup ds, h => by
    obtain ⟨a, b, c⟩ := shapes (ds := ds) fun d hd => gd_shape n d (h.2 d hd)
    exact ⟨a, b, Nat.succ_le_succ c⟩
  | n + 1, .lst ds, h => by
    obtain ⟨a, b, c⟩ := shapes (ds := ds) fun d hd => gd_shape n d (h.2 d hd)
    exact ⟨a, b, Nat.succ_le_succ c⟩
  | 0, .ref _, h => h.elim
  | n + 1, .ref _, h => h.elim
  | 0, .scr _, h => h.elim
  | n + 1, .scr _, h => h.elim
theorem eq_gd {n m : Nat} {x y : Dat} (hx : gd n x) (hy : gd m y) (hn : n ≤ 60 := by decide) (hm : m ≤ 60 := by decide) : opEq x y = some (PyData.eqv (toP x) (toP y)) := by
  obtain ⟨a, b, c⟩ := gd_shape n x hx
  obtain ⟨a', b', c'⟩ := gd_shape m y hy
  unfold opEq
  have s1 : SeqAt.shaped (toP x) = true := by
    unfold SeqAt.shaped
    rw [b, decide_eq_true (by omega)]; rfl
  have s2 : SeqAt.shaped (toP y) = true := by
    unfold SeqAt.shaped
    rw [b', decide_eq_true (by omega)]; rfl
  rw [a, a', s1, s2]
  rfl
theorem eq_nil {n : Nat} {ds : List Dat} (h : gd n (.lst ds)) (hn : n ≤ 60 := by decide) : opEq (.lst ds) (.lst []) = some ds.isEmpty := by
  rw [eq_gd h (y := .lst []) (m := 0) (show gd 0 (.lst []) from ⟨Nat.zero_le _, fun _ hd => nomatch hd⟩) hn]
  cases ds <;> rfl
theorem gd_ints {n : Nat} {l : List Int} (h : l.length ≤ 100000) : gd (n + 1) (.lst (l.map Dat.int)) := ⟨by simpa using h, fun d hd => by
  obtain ⟨i, _, rfl⟩ := List.mem_map.mp hd
  cases n <;> trivial⟩
/-! the longest wait -/
def posN (b : List Bool) : List Int := (b.zipIdx).filterMap fun p => if p.1 = true then some (p.2 : Int) else none
def gapsN (ps qs : List Int) : List Int := (ps.zip qs).map fun p => p.2 - p.1 - 1
def waitN (b : List Bool) : Option Int := match posN b with
  | [] => none
  | p :: ps => match gapsN (p :: ps) (ps ++ [p + (b.length : Int)]) with
    | [] => none
    | g :: gs => some (maxI g gs)
def optD : Option Int → Dat
  | none => .non
  | some i => .int i
def dD (dss : List (List Str)) : List Dat := dss.map fun zs => .tup (sD zs)
def hasN (x : Str) (dss : List (List Str)) : List Bool := dss.map fun zs => decide (x ∈ zs)
section
variable {fu k : Nat} {st : Store}
theorem s_wait_in {dss : List (List Str)} {x : Str} (h : dss.length ≤ 10000) : Ph fu (k + 1) 15 [.tup (dD dss), .str x] st = .ok (optD (waitN (hasN x dss))) st := by
  rw [Ph, phi_ap (fn := f_wait_in) rfl rfl]
  simp [f_wait_in, b_wait_in, dD]
  rw [enumD_map, compL_map (h := fun p => if decide (x ∈ p.1) = true then some (.int (p.2 : Nat)) else none)]
  rotate_left
  · rintro ⟨zs, i⟩ _
    simp [compB, cmp_in, sD, in_tup_strs]
  have e : (dss.zipIdx.filterMap fun p => if decide (x ∈ p.1) = true then some (Dat.int (p.2 : Nat)) else none) = (posN (hasN x dss)).map Dat.int := by
    unfold posN hasN
    rw [List.zipIdx_map, List.filterMap_map, List.map_filterMap]
    congr 1
    funext p
    simp
  rw [e]
  have hl : (posN (hasN x dss)).length ≤ 10000 := by
    unfold posN
    refine Nat.le_trans (List.length_filterMap_le _ _) ?_
    simpa [hasN] using h
  have hlen : dss.length = (hasN x dss).length := by simp [hasN]
  simp
  rw [sized_ok (le_size (by simp; omega))]
  simp [cmp_eq]
  rw [eq_nil (n := 1) (gd_ints (by omega))]
  simp
  unfold waitN
  rw [← hlen]
  generalize hb : dss.length = N at *
  cases hp : posN (hasN x dss) with
  | nil => simp [optD]
  | cons p ps =>
    rw [hp, List.length_cons] at hl
    have hz : zipD (.int p :: ps.map Dat.int) (ps.map Dat.int ++ [.int (p + (N : Int))]) = ((p :: ps).zip (ps ++ [p + (N : Int)])).map fun q => Dat.tup [.int q.1, .int q.2] := by
      rw [← zipD_map (F := Dat.int) (G := Dat.int)]
      simp
    have hs : ps.length ≤ 16777215 := by omega
    have hs : ps.length + 1 ≤ 16777216 := by omega
    subst hb
    simp [hs, hz]
    rw [compL_some (h := fun q => Dat.int (q.2 - q.1 - 1))]
    rotate_left
    · rintro ⟨q, r⟩ _
      simp [compB]
    have hm : (((p :: ps).zip (ps ++ [p + (dss.length : Int)])).map fun q => Dat.int (q.2 - q.1 - 1)) = (gapsN (p :: ps) (ps ++ [p + (dss.length : Int)])).map Dat.int := by
      simp [gapsN]
    rw [hm]
    have hgl : (gapsN (p :: ps) (ps ++ [p + (dss.length : Int)])).length = ps.length + 1 := by simp [gapsN]
    simp
    rw [sized_ok (le_size (by simp [hgl]; omega))]
    cases hg : gapsN (p :: ps) (ps ++ [p + (dss.length : Int)]) with
    | nil => rw [hg] at hgl; cases hgl
    | cons g gs =>
      have hmax : opBi st .max [.lst ((g :: gs).map Dat.int)] = some (.int (maxI g gs)) := by
        show (match intsOf ((g :: gs).map Dat.int) with
          | some (n :: ns) => some (Dat.int (maxI n ns))
          | _ => none) = _
        have := intsOf_map (g :: gs) id
        simp only [id] at this
        rw [this, List.map_id]
      simp only [List.map_cons] at hmax
      simp [hmax, optD]
end
end K80
end
-- M4
section
set_option maxRecDepth 100000
set_option maxHeartbeats 4000000
set_option linter.all false
set_option Elab.async false
namespace K80
open PySem Fw
/-- fields as they must be -/
structure FOk (fs : List (Str × Int)) : Prop where
  one : 1 ≤ fs.length
  eight : fs.length ≤ 8
  name : ∀ p ∈ fs, isNameL p.1.cps.toList = true
  days : ∀ p ∈ fs, 1 ≤ p.2 ∧ p.2 ≤ 12
  rise : risingN (fs.map (·.1)) = true
theorem strs_sD : ∀ zs : List Str, strsN (sD zs) = zs
  | [] => rfl
  | z :: zs => congrArg (z :: ·) (strs_sD zs)
theorem FOk.fits {fs : List (Str × Int)} (F : FOk fs) : fieldsN (.tup (fD fs)) = true := by
  have hl : (fD fs).length = fs.length := by simp [fD]
  show (decide (1 ≤ (fD fs).length) && decide ((fD fs).length ≤ 8) && ((fD fs).all (fun d => isTupN d 2 2) && ((fD fs).all (fun d => isNameN (fst2 d) && isWholeN (snd2 d) 1 12) && risingN (strsN ((fD fs).map fst2))))) = true
  rw [hl, decide_eq_true F.one, decide_eq_true F.eight]
  have e1 : (fD fs).all (fun d => isTupN d 2 2) = true := by
    rw [List.all_eq_true]
    intro d hd
    obtain ⟨p, _, rfl⟩ := List.mem_map.mp hd
    rfl
  have e2 : (fD fs).all (fun d => isNameN (fst2 d) && isWholeN (snd2 d) 1 12) = true := by
    rw [List.all_eq_true]
    intro d hd
    obtain ⟨p, hp, rfl⟩ := List.mem_map.mp hd
    show (isNameL p.1.cps.toList && (decide (1 ≤ p.2) && decide (p.2 ≤ 12))) = true
    rw [F.name p hp, decide_eq_true (F.days p hp).1, decide_eq_true (F.days p hp).2]
    rfl
  have e3 : (fD fs).map fst2 = sD (fs.map (·.1)) := by
    simp [fD, sD, fst2]
  rw [e1, e2, e3, strs_sD, F.rise]
  rfl
theorem name_gd {x : Str} (h : isNameL x.cps.toList = true) : x.length ≤ 1000 ∧ x.cps.all (· < 0x110000) = true := by
  have e : x.length = x.cps.toList.length := by simp [Str.length]
  cases hx : x.cps.toList with
  | nil => rw [hx] at h; cases h
  | cons c cs =>
    rw [hx] at h
    have h' : (decide ((c :: cs).length ≤ 12) && (decide (c ∈ letters.cps.toList) && (c :: cs).all alnum)) = true := h
    simp only [Bool.and_eq_true] at h'
    refine ⟨by rw [e, hx]; have := of_decide_eq_true h'.1; omega, ?_⟩
    rw [← Array.all_toList, hx, List.all_eq_true]
    intro y hy
    have hy := List.all_eq_true.mp h'.2.2 y hy
    have key : ∀ y : Nat, alnum y = true → y < 0x110000 := by
      intro y hy
      unfold alnum at hy
      rw [Bool.or_eq_true, decide_eq_true_eq, decide_eq_true_eq] at hy
      have a1 : ∀ z ∈ letters.cps.toList, z < 0x110000 := by decide +kernel
      have a2 : ∀ z ∈ digits.cps.toList, z < 0x110000 := by decide +kernel
      exact hy.elim (a1 y) (a2 y)
    exact decide_eq_true (key y hy)
theorem FOk.gd {fs : List (Str × Int)} (F : FOk fs) {n : Nat} : gd (n + 2) (.tup (fD fs)) := by
  refine ⟨by have := F.eight; simp [fD]; omega, fun d hd => ?_⟩
  obtain ⟨p, hp, rfl⟩ := List.mem_map.mp hd
  refine ⟨by simp, fun d hd => ?_⟩
  have g := name_gd (F.name p hp)
  rcases List.mem_cons.mp hd with rfl | hd
  · cases n <;> exact g
  · rcases List.mem_cons.mp hd with rfl | hd
    · cases n <;> trivial
    · cases hd
def dssN (v : Dat) : List (List Str) := match v with
  | .tup ds => ds.map fun d => match d with
    | .tup es => strsN es
    | _ => []
  | _ => []
theorem day_of {names : List Str} {many : Int} {v : Dat} (h : fitsDayN names many v = true) : ∃ zs, v = .tup (sD zs) ∧ (zs.length : Int) ≤ many ∧ (∀ z ∈ zs, z ∈ names) ∧ risingN zs = true := by
  cases v <;> first | (exact absurd h Bool.false_ne_true) | skip
  rename_i ds
  have h' : (decide ((ds.length : Int) ≤ many) && (ds.all (amongN names) && risingN (strsN ds))) = true := h
  simp only [Bool.and_eq_true] at h'
  have e := strs_all h'.2.1
  refine ⟨strsN ds, congrArg Dat.tup e, ?_, fun z hz => ?_, h'.2.2⟩
  · have := congrArg List.length e
    simp only [sD, List.length_map] at this
    have := of_decide_eq_true h'.1
    omega
  · have hz' : Dat.str z ∈ ds := by rw [e]; exact List.mem_map_of_mem hz
    exact of_decide_eq_true (List.all_eq_true.mp h'.2.1 _ hz')
theorem round_of {names : List Str} {many : Int} {v : Dat} (h : fitsRoundN names many v = true) : v = .tup (dD (dssN v)) ∧ 1 ≤ (dssN v).length ∧ (dssN v).length ≤ 2000 ∧ ∀ zs ∈ dssN v, (zs.length : Int) ≤ many ∧ (∀ z ∈ zs, z ∈ names) ∧ risingN zs = true := by
  cases v <;> first | (exact absurd h Bool.false_ne_true) | skip
  rename_i ds
  have h' : (decide (1 ≤ ds.length) && decide (ds.length ≤ 2000) && ds.all (fitsDayN names many)) = true := h
  simp only [Bool.and_eq_true] at h'
  have hd : ∀ d ∈ ds, fitsDayN names many d = true := List.all_eq_true.mp h'.2
  have key : ∀ d ∈ ds, d = .tup (sD (match d with
    | .tup es => strsN es
    | _ => [])) := fun d hdd => by
    obtain ⟨zs, e, _⟩ := day_of (hd d hdd)
    subst e
    show Dat.tup (sD zs) = .tup (sD (strsN (sD zs)))
    rw [strs_sD]
  refine ⟨?_, by simpa [dssN] using of_decide_eq_true h'.1.1, by simpa [dssN] using of_decide_eq_true h'.1.2, fun zs hz => ?_⟩
  · show Dat.tup ds = .tup (dD (ds.map _))
    unfold dD
    rw [List.map_map]
    have e : ds = ds.map ((fun zs => Dat.tup (sD zs)) ∘ fun d => match d with
      | .tup es => strsN es
      | _ => []) := by
      conv => lhs; rw [← List.map_id ds]
      exact List.map_congr_left fun d hdd => key d hdd
    exact congrArg Dat.tup e
  · obtain ⟨d, hdd, e⟩ := List.mem_map.mp hz
    obtain ⟨zs', e2, r⟩ := day_of (hd d hdd)
    subst e2
    have e3 : strsN (sD zs') = zs := e
    rw [strs_sD] at e3
    rw [← e3]
    exact r
def fitsGoodN (fs : List (Str × Int)) (many : Int) (v : Dat) : Bool := fitsRoundN (fs.map (·.1)) many v && fs.all fun p => match waitN (hasN p.1 (dssN v)) with
  | none => false
  | some w => decide (w < p.2)
section
variable {fu k : Nat} {st : Store} {fs : List (Str × Int)} {many : Int}
theorem s_need_fields (F : FOk fs) : Ph fu (k + 4) 10 [.tup (fD fs)] st = .ok .non st := by
  rw [Ph, phi_ap (fn := f_need_fields) rfl rfl]
  have h1 := s_fits_fields (fu := fu) (k := k) (st := st) (F.gd (n := 0))
  rw [F.fits] at h1
  simp only [Ph] at h1
  simp [f_need_fields, b_need_fields, h1]
theorem s_need_many (F : FOk fs) (h1 : 1 ≤ many) (h2 : many ≤ 3) : Ph fu (k + 5) 11 [.tup (fD fs), .int many] st = .ok .non st := by
  rw [Ph, phi_ap (fn := f_need_many) rfl rfl]
  have g1 := s_need_fields (fu := fu) (k := k) (st := st) F
  have g2 := s_is_whole (fu := fu) (k := k + 3) (st := st) (v := .int many) (lo := 1) (hi := 3) rfl
  have e : isWholeN (.int many) 1 3 = true := by
    show (decide (1 ≤ many) && decide (many ≤ 3)) = true
    rw [decide_eq_true h1, decide_eq_true h2]; rfl
  rw [e] at g2
  simp only [Ph] at g1 g2
  simp [f_need_many, b_need_many, g1, g2]
theorem s_are_fields {v : Dat} {n : Nat} (h : gd (n + 2) v) : Ph fu (k + 4) 20 [v] st = .ok (.bl (fieldsN v)) st := by
  rw [Ph, phi_ap (fn := f_are_fields) rfl rfl]
  have h1 := s_fits_fields (fu := fu) (k := k) (st := st) h
  simp only [Ph] at h1
  simp [f_are_fields, b_are_fields, h1]
theorem s_is_round (F : FOk fs) (h1 : 1 ≤ many) (h2 : many ≤ 3) {v : Dat} {n : Nat} (h : gd (n + 2) v) : Ph fu (k + 6) 22 [.tup (fD fs), .int many, v] st = .ok (.bl (fitsRoundN (fs.map (·.1)) many v)) st := by
  rw [Ph, phi_ap (fn := f_is_round) rfl rfl]
  have g1 := s_need_many (fu := fu) (k := k) (st := st) F h1 h2
  have g2 := s_fits_round (fu := fu) (k := k + 1) (st := st) (fs := fs) (many := many) (by have := F.eight; omega) (by omega) h
  simp only [Ph] at g1 g2
  simp [f_is_round, b_is_round, g1, g2]
theorem s_fits_good (F : FOk fs) (h1 : 1 ≤ many) (h2 : many ≤ 3) {v : Dat} {n : Nat} (h : gd (n + 2) v) : Ph fu (k + 5) 16 [.tup (fD fs), .int many, v] st = .ok (.bl (fitsGoodN fs many v)) st := by
  rw [Ph, phi_ap (fn := f_fits_good) rfl rfl]
  have g2 := s_fits_round (fu := fu) (k := k) (st := st) (fs := fs) (many := many) (by have := F.eight; omega) (by omega) h
  simp only [Ph] at g2
  cases hr : fitsRoundN (fs.map (·.1)) many v with
  | false =>
    rw [hr] at g2
    have e : fitsGoodN fs many v = false := by unfold fitsGoodN; rw [hr]; rfl
    rw [e]
    simp [f_fits_good, b_fits_good, g2]
  | true =>
    rw [hr] at g2
    obtain ⟨e1, e2, e3, e4⟩ := round_of hr
    have hw : ∀ p ∈ fs, Phi tab fu (k + 4) 15 [v, .str p.1] st = .ok (optD (waitN (hasN p.1 (dssN v)))) st := fun p _ => by
      have := s_wait_in (fu := fu) (k := k + 3) (st := st) (dss := dssN v) (x := p.1) (by omega)
      rw [← e1] at this
      exact this
    have e : fitsGoodN fs many v = fs.all fun p => match waitN (hasN p.1 (dssN v)) with
      | none => false
      | some w => decide (w < p.2) := by unfold fitsGoodN; rw [hr]; rfl
    rw [e]
    simp [f_fits_good, b_fits_good, g2]
    unfold fD
    rw [compL_some (h := fun p => .tup [optD (waitN (hasN p.1 (dssN v))), .int p.2])]
    rotate_left
    · intro p hp
      simp [compB, hw p hp]
    have h8 := F.eight
    simp
    rw [sized_ok (by simp; omega)]
    simp
    rw [compL_some (h := fun p => Dat.bl (match waitN (hasN p.1 (dssN v)) with
      | none => false
      | some w => decide (w < p.2)))]
    rotate_left
    · intro p hp
      cases waitN (hasN p.1 (dssN v)) <;> simp [compB, optD]
    simp
    rw [sized_ok (by simp; omega)]
    simp [rb_all_map]
theorem s_is_good (F : FOk fs) (h1 : 1 ≤ many) (h2 : many ≤ 3) {v : Dat} {n : Nat} (h : gd (n + 2) v) : Ph fu (k + 6) 23 [.tup (fD fs), .int many, v] st = .ok (.bl (fitsGoodN fs many v)) st := by
  rw [Ph, phi_ap (fn := f_is_good) rfl rfl]
  have g1 := s_need_many (fu := fu) (k := k) (st := st) F h1 h2
  have g2 := s_fits_good (fu := fu) (k := k) (st := st) F h1 h2 h
  simp only [Ph] at g1 g2
  simp [f_is_good, b_is_good, g1, g2]
end
end K80
end
-- M5
section
set_option maxRecDepth 100000
set_option maxHeartbeats 4000000
set_option linter.all false
set_option Elab.async false
namespace K80
open PySem Fw
def iD (ws : List Int) : List Dat := ws.map Dat.int
/-- waits as they must be -/
structure WOkN (fs : List (Str × Int)) (ws : List Int) : Prop where
  len : ws.length = fs.length
  in_ : ∀ p ∈ ws.zip fs, 0 ≤ p.1 ∧ p.1 < p.2.2
def behindN (fs : List (Str × Int)) (ws : List Int) (zs : List Str) : Option (List Int) :=
  let f := (ws.zip fs).map fun p => if p.2.1 ∈ zs then 0 else p.1 + 1
  if (f.zip fs).all fun p => decide (p.1 < p.2.2) then some f else none
def playedN (fs : List (Str × Int)) : List Int → List (List Str) → Option (List Int)
  | ws, [] => some ws
  | ws, zs :: r => match behindN fs ws zs with
    | none => none
    | some ws' => playedN fs ws' r
def optT : Option (List Int) → Dat
  | none => .non
  | some ws => .tup (iD ws)
theorem behind_len {fs : List (Str × Int)} {ws ws' : List Int} {zs : List Str} (h : ws.length = fs.length) (e : behindN fs ws zs = some ws') : ws'.length = fs.length := by
  unfold behindN at e
  simp only at e
  split at e
  · cases e
    simp [h]
  · cases e
theorem behind_ok {fs : List (Str × Int)} {ws ws' : List Int} {zs : List Str} (h : WOkN fs ws) (e : behindN fs ws zs = some ws') : WOkN fs ws' := by
  refine ⟨behind_len h.len e, ?_⟩
  unfold behindN at e
  simp only at e
  split at e
  · rename_i hall
    cases e
    intro p hp
    have h2 := of_decide_eq_true (List.all_eq_true.mp hall p hp)
    refine ⟨?_, h2⟩
    have h3 := (List.of_mem_zip hp).1
    obtain ⟨q, hq, e⟩ := List.mem_map.mp h3
    have h4 := (h.in_ q hq).1
    rw [← e]
    split <;> omega
  · cases e
section
variable {fu k : Nat} {st : Store} {fs : List (Str × Int)} {many : Int}
theorem s_need_round (F : FOk fs) {v : Dat} {n : Nat} (hm : many ≤ 3) (h : gd (n + 2) v) (hr : fitsRoundN (fs.map (·.1)) many v = true) : Ph fu (k + 5) 24 [.tup (fD fs), .int many, v] st = .ok .non st := by
  rw [Ph, phi_ap (fn := f_need_round) rfl rfl]
  have g2 := s_fits_round (fu := fu) (k := k) (st := st) (fs := fs) (many := many) (by have := F.eight; omega) (by omega) h
  rw [hr] at g2
  simp only [Ph] at g2
  simp [f_need_round, b_need_round, g2]
theorem s_longest_wait (F : FOk fs) (h1 : 1 ≤ many) (h2 : many ≤ 3) {v : Dat} {n : Nat} (h : gd (n + 2) v) (hr : fitsRoundN (fs.map (·.1)) many v = true) {x : Str} (hx : x ∈ fs.map (·.1)) :
    Ph fu (k + 6) 25 [.tup (fD fs), .int many, v, .str x] st = .ok (optD (waitN (hasN x (dssN v)))) st := by
  rw [Ph, phi_ap (fn := f_longest_wait) rfl rfl]
  have g1 := s_need_many (fu := fu) (k := k) (st := st) F h1 h2
  have g2 := s_need_round (fu := fu) (k := k) (st := st) F h2 h hr
  have g3 := s_names_of (fu := fu) (k := k + 4) (st := st) (fs := fs) (by have := F.eight; omega)
  have g4 := s_is_among (fu := fu) (k := k + 4) (st := st) (v := .str x) (names := fs.map (·.1)) rfl
  have e : amongN (fs.map (·.1)) (.str x) = true := decide_eq_true hx
  rw [e] at g4
  obtain ⟨e1, e2, e3, e4⟩ := round_of hr
  have g5 := s_wait_in (fu := fu) (k := k + 4) (st := st) (dss := dssN v) (x := x) (by omega)
  rw [← e1] at g5
  simp only [Ph] at g1 g2 g3 g4 g5
  simp [f_longest_wait, b_longest_wait, g1, g2, g3, g4, g5]
theorem zip_tup' {α β : Type} {F : α → Dat} {G : β → Dat} {l : List α} {m : List β} : zipOf (.tup (l.map F)) (.tup (m.map G)) = some ((l.zip m).map fun p => .tup [F p.1, G p.2]) := by
  rw [zip_tup, zipD_map]
theorem s_fits_waits {ws : List Int} (F : FOk fs) (W : WOkN fs ws) : Ph fu (k + 2) 17 [.tup (fD fs), .tup (iD ws)] st = .ok (.bl true) st := by
  rw [Ph, phi_ap (fn := f_fits_waits) rfl rfl]
  have h8 := F.eight
  have g1 := s_is_tuple_of (fu := fu) (k := k) (st := st) (v := .tup (iD ws)) (lo := fs.length) (hi := fs.length) rfl
  have e : isTupN (.tup (iD ws)) fs.length fs.length = true := by
    show (decide ((fs.length : Int) ≤ ((iD ws).length : Int)) && decide (((iD ws).length : Int) ≤ (fs.length : Int))) = true
    simp [iD, W.len]
  rw [e] at g1
  simp only [Ph] at g1
  have el : (fD fs).length = fs.length := by simp [fD]
  simp [f_fits_waits, b_fits_waits, el, g1]
  unfold fD iD
  rw [zipD_map, compL_some (h := fun p => Dat.bl true)]
  rotate_left
  · rintro ⟨w, x, d⟩ hp
    have hw := W.in_ _ hp
    have g2 := s_is_whole (fu := fu) (k := k) (st := st) (v := .int w) (lo := 0) (hi := d - 1) rfl
    have e : isWholeN (.int w) 0 (d - 1) = true := by
      show (decide (0 ≤ w) && decide (w ≤ d - 1)) = true
      rw [decide_eq_true hw.1, decide_eq_true (by have q : w < d := hw.2; omega)]; rfl
    rw [e] at g2
    simp only [Ph] at g2
    simp [compB, g2]
  simp
  rw [sized_ok (by simp; omega)]
  simp only [ofO_some, nox_ok, bd_ok, rb_all_map]
  simp
theorem s_need_waits {ws : List Int} (F : FOk fs) (W : WOkN fs ws) : Ph fu (k + 3) 18 [.tup (fD fs), .tup (iD ws)] st = .ok .non st := by
  rw [Ph, phi_ap (fn := f_need_waits) rfl rfl]
  have g := s_fits_waits (fu := fu) (k := k) (st := st) F W
  simp only [Ph] at g
  simp [f_need_waits, b_need_waits, g]
theorem s_behind {ws : List Int} {zs : List Str} (F : FOk fs) (W : ws.length = fs.length) : Ph fu (k + 1) 19 [.tup (fD fs), .tup (iD ws), .tup (sD zs)] st = .ok (optT (behindN fs ws zs)) st := by
  rw [Ph, phi_ap (fn := f_behind) rfl rfl]
  have h8 := F.eight
  simp [f_behind, b_behind]
  unfold fD iD
  rw [zipD_map, compL_some (h := fun p => Dat.int (if p.2.1 ∈ zs then 0 else p.1 + 1))]
  rotate_left
  · rintro ⟨w, x, d⟩ hp
    simp [compB, cmp_in, sD, in_tup_strs]
  simp
  rw [sized_ok (by simp; omega)]
  have em : ((ws.zip fs).map fun p => Dat.int (if p.2.1 ∈ zs then 0 else p.1 + 1)) = ((ws.zip fs).map fun p => if p.2.1 ∈ zs then 0 else p.1 + 1).map Dat.int := by rw [List.map_map]; rfl
  rw [em]
  have hfl : ((ws.zip fs).map fun p => if p.2.1 ∈ zs then (0 : Int) else p.1 + 1).length = fs.length := by simp [W]
  unfold behindN
  simp only
  generalize ((ws.zip fs).map fun p => if p.2.1 ∈ zs then (0 : Int) else p.1 + 1) = fl at *
  simp
  rw [zipD_map, compL_some (h := fun p => Dat.bl (decide (p.1 < p.2.2)))]
  rotate_left
  · rintro ⟨w, x, d⟩ hp
    simp [compB]
  simp
  rw [sized_ok (by simp; omega)]
  simp only [ofO_some, nox_ok, bd_ok, rb_all_map, asBl_bl]
  cases (fl.zip fs).all fun p => decide (p.1 < p.2.2) <;> simp [optT, iD]
theorem played_loop (F : FOk fs) : ∀ (dss : List (List Str)) (ws : List Int) (sl : Sl), ws.length = fs.length →
    ∃ sl', forL (fun ρ => exes (Phi tab fu (k + 1)) fu (.cons (.asg 2 (.call 19 (.cons (.var 0) (.cons (.var 2) (.cons (.var 4) .nil))))) (.cons (.ife (.cmp .Is (.var 2) .non) (.cons (.ret .non) .nil) .nil) .nil)) ρ) (bindT (.var 4)) (dD dss) [.v (.tup (fD fs)), .v (.int many), .v (.tup (iD ws)), .v (.tup (dD dss)), sl] st = (match playedN fs ws dss with
      | none => .ok (.ret .non) st
      | some ws' => .ok (.nx [.v (.tup (fD fs)), .v (.int many), .v (.tup (iD ws')), .v (.tup (dD dss)), sl']) st) := by
  have gen : ∀ (D : Dat) (dss : List (List Str)) (ws : List Int) (sl : Sl), ws.length = fs.length →
    ∃ sl', forL (fun ρ => exes (Phi tab fu (k + 1)) fu (.cons (.asg 2 (.call 19 (.cons (.var 0) (.cons (.var 2) (.cons (.var 4) .nil))))) (.cons (.ife (.cmp .Is (.var 2) .non) (.cons (.ret .non) .nil) .nil) .nil)) ρ) (bindT (.var 4)) (dD dss) [.v (.tup (fD fs)), .v (.int many), .v (.tup (iD ws)), .v D, sl] st = (match playedN fs ws dss with
      | none => .ok (.ret .non) st
      | some ws' => .ok (.nx [.v (.tup (fD fs)), .v (.int many), .v (.tup (iD ws')), .v D, sl']) st) := by
    intro D dss
    induction dss with
    | nil => exact fun ws sl h => ⟨sl, rfl⟩
    | cons zs r ih =>
      intro ws sl h
      have g := s_behind (fu := fu) (k := k) (st := st) (zs := zs) F h
      simp only [Ph] at g
      unfold playedN
      show ∃ sl', forL _ _ (.tup (sD zs) :: dD r) _ st = _
      cases hb : behindN fs ws zs with
      | none =>
        rw [hb] at g
        refine ⟨sl, ?_⟩
        simp [g, optT]
      | some ws' =>
        rw [hb] at g
        obtain ⟨sl', e⟩ := ih ws' (.v (.tup (sD zs))) (behind_len h hb)
        refine ⟨sl', ?_⟩
        rw [← e]
        simp [g, optT]
  exact fun dss => gen _ dss
theorem s_waits_behind (F : FOk fs) (h1 : 1 ≤ many) (h2 : many ≤ 3) {v : Dat} {n : Nat} (h : gd (n + 2) v) (hr : fitsRoundN (fs.map (·.1)) many v = true) {ws : List Int} (W : WOkN fs ws) :
    Ph fu (k + 6) 26 [.tup (fD fs), .int many, .tup (iD ws), v] st = .ok (optT (playedN fs ws (dssN v))) st := by
  rw [Ph, phi_ap (fn := f_waits_behind) rfl rfl]
  have g1 := s_need_many (fu := fu) (k := k) (st := st) F h1 h2
  have g2 := s_need_round (fu := fu) (k := k) (st := st) F h2 h hr
  have g3 := s_need_waits (fu := fu) (k := k + 2) (st := st) F W
  obtain ⟨e1, e2, e3, e4⟩ := round_of hr
  obtain ⟨sl', e⟩ := played_loop (fu := fu) (k := k + 4) (st := st) (many := many) F (dssN v) ws .un W.len
  clear hr
  generalize dssN v = dss at *
  subst e1
  simp only [Ph] at g1 g2 g3
  simp [f_waits_behind, b_waits_behind, g1, g2, g3]
  rw [e]
  cases playedN fs ws dss <;> simp [optT]
end
end K80
end
-- M6
section
set_option maxRecDepth 100000
set_option maxHeartbeats 4000000
set_option linter.all false
set_option Elab.async false
namespace K80
open PySem Fw
theorem fmod_nat (a b : Nat) : (a : Int).fmod b = ((a % b : Nat) : Int) := by
  rw [Int.fmod_eq_emod_of_nonneg _ (by omega)]
  rfl
theorem fdiv_nat (a b : Nat) : (a : Int).fdiv b = ((a / b : Nat) : Int) := by
  rw [Int.fdiv_eq_ediv_of_nonneg _ (by omega)]
  rfl
def fr (p : Nat × Nat) : Dat := .tup [.int p.1, .int p.2]
def redN (a b : Nat) : Nat × Nat := (a / Nat.gcd a b, b / Nat.gcd a b)
def lowN (S : Nat) : Nat × Nat := redN S 27720
theorem low_unique {n d S B : Nat} (hc : Nat.gcd n d = 1) (hd : 0 < d) (hB : 0 < B) (h : n * B = S * d) : (n, d) = redN S B := by
  have h1 : d ∣ B := by
    have : d ∣ n * B := ⟨S, by rw [h, Nat.mul_comm]⟩
    exact Nat.Coprime.dvd_of_dvd_mul_left (show Nat.Coprime d n from by unfold Nat.Coprime; rw [Nat.gcd_comm]; exact hc) this
  obtain ⟨m, rfl⟩ := h1
  have hm : 0 < m := Nat.pos_of_ne_zero fun z => by subst z; simp at hB
  have hS : S = n * m := by
    have : d * (n * m) = d * S := by rw [Nat.mul_comm d S, ← h, Nat.mul_left_comm]
    exact (Nat.eq_of_mul_eq_mul_left hd this).symm
  subst hS
  unfold redN
  rw [Nat.gcd_mul_right, hc, Nat.one_mul, Nat.mul_div_cancel _ hm, Nat.mul_div_cancel _ hm]
theorem redN_prop {a b : Nat} (hb : 0 < b) : Nat.gcd (redN a b).1 (redN a b).2 = 1 ∧ 0 < (redN a b).2 ∧ (redN a b).1 * b = a * (redN a b).2 := by
  have hg : 0 < Nat.gcd a b := Nat.gcd_pos_of_pos_right _ hb
  refine ⟨Nat.coprime_div_gcd_div_gcd hg, Nat.div_pos (Nat.le_of_dvd hb (Nat.gcd_dvd_right a b)) hg, ?_⟩
  show a / Nat.gcd a b * b = a * (b / Nat.gcd a b)
  obtain ⟨x, hx⟩ := Nat.gcd_dvd_left a b
  obtain ⟨y, hy⟩ := Nat.gcd_dvd_right a b
  generalize Nat.gcd a b = g at *
  subst hx
  subst hy
  rw [Nat.mul_div_cancel_left _ hg, Nat.mul_div_cancel_left _ hg, Nat.mul_left_comm, Nat.mul_assoc]
section
variable {fu k : Nat} {st : Store}
theorem euclid {Φ : Nat → List Dat → M Dat} : ∀ (n o a : Nat), o < n → whileL (fun ρ => mbind (den Φ (.cmp .NotEq (.var 1) (.int 0)) ρ) fun x => mo (asBl x)) (fun ρ => exes Φ fu (.cons (.par (.cons (.var 0) (.cons (.var 1) .nil)) (.cons (.var 1) (.cons (.bin .Mod (.var 0) (.var 1)) .nil))) .nil) ρ) n [.v (.int a), .v (.int o)] st = .ok (.nx [.v (.int (Nat.gcd a o : Nat)), .v (.int 0)]) st
  | 0, o, a, h => absurd h (Nat.not_lt_zero _)
  | n + 1, o, a, h => by
    rw [whileL_succ, mbind_ap]
    by_cases ho : o = 0
    · subst ho
      simp [cmp_ne, mo_ap]
    · have ho' : ¬ (o : Int) = 0 := by omega
      have ih := euclid (Φ := Φ) n (a % o) o (by have := Nat.mod_lt a (Nat.pos_of_ne_zero ho); omega)
      have eg : Nat.gcd o (a % o) = Nat.gcd a o := by rw [Nat.gcd_comm a o, Nat.gcd_rec o a, Nat.gcd_comm]
      rw [eg] at ih
      have e2 : (a : Int).fmod o = ((a % o : Nat) : Int) := fmod_nat a o
      have e3 : opBin .Mod (.int a) (.int o) = some (.int ((a % o : Nat) : Int)) := by rw [bin_mod_int, if_pos ho', e2]
      simp [cmp_ne, mo_ap, ho, e3]
      simpa using ih
theorem s_divisor_of (hf : 1000000 ≤ fu) {a b : Nat} (h : b < 1000000) : Ph fu (k + 1) 2 [.int a, .int b] st = .ok (.int (Nat.gcd a b : Nat)) st := by
  rw [Ph, phi_ap (fn := f_divisor_of) rfl rfl]
  have e := euclid (st := st) (fu := fu) (Φ := Phi tab fu k) fu b a (by omega)
  have n1 : ¬ (a : Int) < 0 := by omega
  have n2 : ¬ (b : Int) < 0 := by omega
  simp [f_divisor_of, b_divisor_of, n1, n2]
  rw [e]
  simp
theorem red_div {a b : Nat} (hb : 0 < b) (h : b < 1000000) : Int.fdiv a (Nat.gcd a b : Nat) = ((redN a b).1 : Int) ∧ Int.fdiv b (Nat.gcd a b : Nat) = ((redN a b).2 : Int) ∧ ((Nat.gcd a b : Nat) : Int) ≠ 0 ∧ Nat.gcd a b < 1073741824 := by
  have hg : 0 < Nat.gcd a b := Nat.gcd_pos_of_pos_right _ hb
  have hle := Nat.le_of_dvd hb (Nat.gcd_dvd_right a b)
  exact ⟨fdiv_nat _ _, fdiv_nat _ _, by omega, by omega⟩
theorem s_reduced (hf : 1000000 ≤ fu) {a b : Nat} (hb : 0 < b) (h : b < 1000000) : Ph fu (k + 2) 3 [.int a, .int b] st = .ok (fr (redN a b)) st := by
  rw [Ph, phi_ap (fn := f_reduced) rfl rfl]
  have g := s_divisor_of (fu := fu) (k := k) (st := st) (a := a) hf h
  obtain ⟨e1, e2, e3, e4⟩ := red_div (a := a) hb h
  have n2 : ¬ (b : Int) < 0 := by omega
  have d1 : opBin .FloorDiv (.int a) (.int (Nat.gcd a b : Nat)) = some (.int (redN a b).1) := by
    rw [bin_div_int, if_pos ⟨e3, by simpa using e4⟩, e1]
  have d2 : opBin .FloorDiv (.int b) (.int (Nat.gcd a b : Nat)) = some (.int (redN a b).2) := by
    rw [bin_div_int, if_pos ⟨e3, by simpa using e4⟩, e2]
  simp only [Ph] at g
  simp [f_reduced, b_reduced, g, n2, d1, d2, fr]
theorem mul_int {a b : Int} (h : -(2 ^ 64) < b ∧ b < 2 ^ 64) : opBin .Mult (.int a) (.int b) = some (.int (a * b)) := by
  rw [bin_mul_int, if_pos (.inr h)]
theorem s_addedI {n d m e : Int} {R : Dat} (b1 : -(2 ^ 64) < e ∧ e < 2 ^ 64) (b2 : -(2 ^ 64) < d ∧ d < 2 ^ 64) (g : Phi tab fu (k + 2) 3 [.int (n * e + m * d), .int (d * e)] st = .ok R st) :
    Ph fu (k + 3) 4 [.tup [.int n, .int d], .tup [.int m, .int e]] st = .ok R st := by
  rw [Ph, phi_ap (fn := f_added) rfl rfl]
  have m1 := mul_int (a := n) b1
  have m2 := mul_int (a := m) b2
  have m3 := mul_int (a := d) b1
  simp [f_added, b_added, m1, m2, m3, g]
theorem s_added (hf : 1000000 ≤ fu) {n d m e : Nat} (hd : 0 < d) (he : 0 < e) (h : d * e < 1000000) (hm : e < 1000000) (hm' : d < 1000000) : Ph fu (k + 3) 4 [fr (n, d), fr (m, e)] st = .ok (fr (redN (n * e + m * d) (d * e))) st := by
  have g := s_reduced (fu := fu) (k := k) (st := st) (a := n * e + m * d) hf (Nat.mul_pos hd he) h
  rw [Int.natCast_add, Int.natCast_mul, Int.natCast_mul, Int.natCast_mul] at g
  exact s_addedI (by omega) (by omega) g
theorem low_pos (S : Nat) : 0 < (lowN S).2 ∧ (lowN S).2 ≤ 27720 := ⟨(redN_prop (by decide)).2.1, Nat.div_le_self _ _⟩
theorem added_low (hf : 1000000 ≤ fu) {S dd : Nat} (h1 : 1 ≤ dd) (h12 : dd ≤ 12) : Ph fu (k + 3) 4 [fr (lowN S), fr (1, dd)] st = .ok (fr (lowN (S + 27720 / dd))) st := by
  have hp := low_pos S
  have hb : (lowN S).2 * dd ≤ 27720 * 12 := Nat.mul_le_mul hp.2 h12
  have g := s_added (fu := fu) (k := k) (st := st) (n := (lowN S).1) (d := (lowN S).2) (m := 1) (e := dd) hf hp.1 h1 (by omega) (by omega) (by have := hp.2; omega)
  rw [show fr ((lowN S).1, (lowN S).2) = fr (lowN S) from rfl] at g
  rw [g]
  refine congrArg (fun p => Res.ok (fr p) st) ?_
  have hq : 0 < (lowN S).2 * dd := Nat.mul_pos hp.1 h1
  obtain ⟨p1, p2, p3⟩ := redN_prop (a := (lowN S).1 * dd + 1 * (lowN S).2) hq
  obtain ⟨q1, q2, q3⟩ := redN_prop (a := S) (b := 27720) (by decide)
  refine low_unique p1 p2 (by decide) ?_
  have hdv : 27720 / dd * dd = 27720 := by
    have : dd ∈ List.range 13 := List.mem_range.mpr (by omega)
    have key : ∀ d ∈ List.range 13, 1 ≤ d → 27720 / d * d = 27720 := by decide
    exact key dd this h1
  have e0 : ((lowN S).1 * dd + 1 * (lowN S).2) * 27720 = (S + 27720 / dd) * ((lowN S).2 * dd) := by
    have q3' : (lowN S).1 * 27720 = S * (lowN S).2 := q3
    calc ((lowN S).1 * dd + 1 * (lowN S).2) * 27720 = (lowN S).1 * 27720 * dd + (lowN S).2 * 27720 := by rw [Nat.add_mul, Nat.one_mul, Nat.mul_right_comm]
      _ = S * (lowN S).2 * dd + (lowN S).2 * (27720 / dd * dd) := by rw [q3', hdv]
      _ = (S + 27720 / dd) * ((lowN S).2 * dd) := by rw [Nat.add_mul, Nat.mul_assoc, Nat.mul_comm (27720 / dd) dd, ← Nat.mul_assoc (lowN S).2, Nat.mul_comm (27720 / dd)]
  generalize (lowN S).1 * dd + 1 * (lowN S).2 = A at *
  generalize (lowN S).2 * dd = Bq at *
  have e1 : (redN A Bq).1 * 27720 * Bq = (S + 27720 / dd) * (redN A Bq).2 * Bq := by
    calc (redN A Bq).1 * 27720 * Bq = (redN A Bq).1 * Bq * 27720 := Nat.mul_right_comm _ _ _
      _ = A * 27720 * (redN A Bq).2 := by rw [p3, Nat.mul_right_comm]
      _ = (S + 27720 / dd) * (redN A Bq).2 * Bq := by rw [e0, Nat.mul_right_comm]
  exact Nat.eq_of_mul_eq_mul_right hq e1
end
end K80
end
-- M7
section
set_option maxRecDepth 100000
set_option maxHeartbeats 4000000
set_option linter.all false
set_option Elab.async false
namespace K80
open PySem Fw
def sumN (l : List (Str × Int)) : Nat := (l.map fun p => 27720 / p.2.toNat).sum
theorem low0 : Dat.tup [.int 0, .int 1] = fr (lowN 0) := by simp [fr, lowN, redN]
section
variable {fu k : Nat} {st : Store} {fs : List (Str × Int)}
theorem up_loop {α : Type} {D : α → Dat} {L : Nat → Dat} {w : α → Nat} {P : Sl} : ∀ (l : List α) (S : Nat) (sl : Sl), (∀ p ∈ l, ∀ S, Phi tab fu (k + 3) 4 [L S, D p] st = .ok (L (S + w p)) st) →
    ∃ sl', forL (fun ρ => exes (Phi tab fu (k + 3)) fu (.cons (.asg 1 (.call 4 (.cons (.var 1) (.cons (.var 2) .nil)))) .nil) ρ) (bindT (.var 2)) (l.map D) [P, .v (L S), sl] st = .ok (.nx [P, .v (L (S + (l.map w).sum)), sl']) st := by
  intro l
  induction l with
  | nil => exact fun S sl _ => ⟨sl, by simp⟩
  | cons p l ih =>
    intro S sl h
    have g := h p List.mem_cons_self S
    obtain ⟨sl', e⟩ := ih (S + w p) (.v (D p)) fun q hq => h q (List.mem_cons_of_mem _ hq)
    refine ⟨sl', ?_⟩
    have es : S + ((p :: l).map w).sum = S + w p + (l.map w).sum := by simp [Nat.add_assoc]
    rw [es, ← e]
    simp [g]
theorem s_added_upG {α : Type} {D : α → Dat} {L : Nat → Dat} {w : α → Nat} {l : List α} (h0 : Dat.tup [.int 0, .int 1] = L 0) (h : ∀ p ∈ l, ∀ S, Phi tab fu (k + 3) 4 [L S, D p] st = .ok (L (S + w p)) st) : Phi tab fu (k + 4) 5 [.lst (l.map D)] st = .ok (L (l.map w).sum) st := by
  rw [phi_ap (fn := f_added_up) rfl rfl]
  obtain ⟨sl', e⟩ := up_loop (fu := fu) (k := k) (st := st) (P := .v (.lst (l.map D))) l 0 .un h
  rw [← h0] at e
  simp [f_added_up, b_added_up]
  rw [e]
  simp
theorem s_densityG {L : Dat} (F : FOk fs) (h : Phi tab fu (k + 4) 5 [.lst (fs.map fun p => .tup [.int 1, .int p.2])] st = .ok L st) : Ph fu (k + 5) 21 [.tup (fD fs)] st = .ok L st := by
  rw [Ph, phi_ap (fn := f_density) rfl rfl]
  have g1 := s_need_fields (fu := fu) (k := k) (st := st) F
  simp only [Ph] at g1
  simp [f_density, b_density, g1]
  unfold fD
  rw [compL_some (h := fun p => .tup [.int 1, .int p.2])]
  rotate_left
  · intro p hp
    simp [compB]
  have := F.eight
  simp
  rw [sized_ok (by simp; omega)]
  simp [h]
theorem s_density (hf : 1000000 ≤ fu) (F : FOk fs) : Ph fu (k + 5) 21 [.tup (fD fs)] st = .ok (fr (lowN (sumN fs))) st := by
  refine s_densityG F ?_
  have e : (fs.map fun p => Dat.tup [.int 1, .int p.2]) = fs.map fun p => fr (1, p.2.toNat) := by
    apply List.map_congr_left
    intro p hp
    have := F.days p hp
    have e : ((p.2.toNat : Nat) : Int) = p.2 := by omega
    show _ = Dat.tup [.int ((1 : Nat) : Int), .int ((p.2.toNat : Nat) : Int)]
    rw [e]
    rfl
  rw [e]
  refine s_added_upG (L := fun S => fr (lowN S)) (w := fun p : Str × Int => 27720 / p.2.toNat) low0 fun p hp S => ?_
  have := F.days p hp
  exact added_low (fu := fu) (k := k) (st := st) hf (by omega) (by omega)
theorem euclid2 {Φ : Nat → List Dat → M Dat} {A B C : Sl} : ∀ (n o a : Nat), o < n → whileL (fun ρ => mbind (den Φ (.cmp .NotEq (.var 4) (.int 0)) ρ) fun x => mo (asBl x)) (fun ρ => exes Φ fu (.cons (.par (.cons (.var 3) (.cons (.var 4) .nil)) (.cons (.var 4) (.cons (.bin .Mod (.bi .int (.cons (.var 3) .nil)) (.var 4)) .nil))) .nil) ρ) n [A, B, C, .v (.int a), .v (.int o)] st = .ok (.nx [A, B, C, .v (.int (Nat.gcd a o : Nat)), .v (.int 0)]) st
  | 0, o, a, h => absurd h (Nat.not_lt_zero _)
  | n + 1, o, a, h => by
    rw [whileL_succ, mbind_ap]
    by_cases ho : o = 0
    · subst ho
      simp [cmp_ne, mo_ap]
    · have ho' : ¬ (o : Int) = 0 := by omega
      have ih := euclid2 (Φ := Φ) (A := A) (B := B) (C := C) n (a % o) o (by have := Nat.mod_lt a (Nat.pos_of_ne_zero ho); omega)
      have eg : Nat.gcd o (a % o) = Nat.gcd a o := by rw [Nat.gcd_comm a o, Nat.gcd_rec o a, Nat.gcd_comm]
      rw [eg] at ih
      have e2 : (a : Int).fmod o = ((a % o : Nat) : Int) := fmod_nat a o
      have e3 : opBin .Mod (.int a) (.int o) = some (.int ((a % o : Nat) : Int)) := by rw [bin_mod_int, if_pos ho', e2]
      simp [cmp_ne, mo_ap, ho, e3]
      simpa using ih
theorem s_leastI {a b g : Int} {x y : Int} (hb : ¬ b < 0) (ha : ¬ a < 0) (e : whileL (fun ρ => mbind (den (Phi tab fu k) (.cmp .NotEq (.var 4) (.int 0)) ρ) fun x => mo (asBl x)) (fun ρ => exes (Phi tab fu k) fu (.cons (.par (.cons (.var 3) (.cons (.var 4) .nil)) (.cons (.var 4) (.cons (.bin .Mod (.bi .int (.cons (.var 3) .nil)) (.var 4)) .nil))) .nil) ρ) fu [.v (.int a), .v (.int b), .un, .v (.int a), .v (.int b)] st = .ok (.nx [.v (.int a), .v (.int b), .un, .v (.int g), .v (.int 0)]) st)
    (d1 : opBin .FloorDiv (.int a) (.int g) = some (.int x)) (d2 : opBin .FloorDiv (.int b) (.int g) = some (.int y)) : Ph fu (k + 1) 35 [.int a, .int b] st = .ok (.tup [.int x, .int y]) st := by
  rw [Ph, phi_ap (fn := f__law_least) rfl rfl]
  have m1 : opBin .Mult (.int 1) (.int a) = some (.int a) := by rw [bin_mul_int, if_pos (.inl (by decide)), Int.one_mul]
  have m2 : opBin .Mult (.int 1) (.int b) = some (.int b) := by rw [bin_mul_int, if_pos (.inl (by decide)), Int.one_mul]
  simp [f__law_least, b__law_least, ha, hb]
  rw [e]
  simp [hb, m1, m2, d1, d2]
theorem s_least (hf : 1000000 ≤ fu) (S : Nat) : Ph fu (k + 1) 35 [.int S, .int 27720] st = .ok (fr (lowN S)) st := by
  obtain ⟨e1, e2, e3, e4⟩ := red_div (a := S) (b := 27720) (by decide) (by decide)
  have e := euclid2 (fu := fu) (st := st) (Φ := Phi tab fu k) (A := .v (.int S)) (B := .v (.int (27720 : Nat))) (C := .un) fu 27720 S (by omega)
  exact s_leastI (by decide) (by omega) e (by rw [bin_div_int, if_pos ⟨e3, by simpa using e4⟩, e1]; rfl) (by rw [bin_div_int, if_pos ⟨e3, by simpa using e4⟩]; exact congrArg (fun z => some (Dat.int z)) e2)
end
end K80
end
-- M8
section
set_option maxRecDepth 100000
set_option maxHeartbeats 4000000
set_option linter.all false
set_option Elab.async false
namespace K80
open PySem Fw
def sortN : Dat → Int
  | .non => 0
  | .bl _ => 1
  | .int _ => 2
  | .str _ => 3
  | .tup _ => 4
  | .lst _ => 5
  | _ => 6
section
variable {fu k : Nat} {st : Store} {fs : List (Str × Int)} {many : Int}
theorem s_sort {v : Dat} (h : plain v = true) : Phi tab fu (k + 1) 30 [v] st = .ok (.int (sortN v)) st := by
  rw [phi_ap (fn := f__law_sort) rfl rfl]
  cases v <;> first | (exact absurd h Bool.false_ne_true) | simp [f__law_sort, b__law_sort, sortN]
theorem in45 {i : Int} : opIn st (.int i) (.tup [.int 4, .int 5]) = some (i == 4 || i == 5) := by
  show (if flatD (.int i) && ([.int 4, .int 5] : List Dat).all flatD then some (([.int 4, .int 5] : List Dat).any fun z => eqF z (.int i)) else none) = _
  show some ((4 == i) || ((5 == i) || false)) = _
  rw [Bool.or_false]
  congr 1
  have c : ∀ a : Int, (a == i) = (i == a) := fun a => by
    by_cases q : a = i
    · subst q; rfl
    · rw [beq_eq_false_iff_ne.mpr q, beq_eq_false_iff_ne.mpr fun z => q z.symm]
  rw [c 4, c 5]
theorem eq_refl_gd {n : Nat} {d : Dat} (h : gd n d) (hn : n ≤ 60 := by decide) : opEq d d = some true := by
  rw [eq_gd h h hn hn, PySem.SeqAt.eqv_refl _ (gd_shape n d h).2.1]
theorem zipD_self {ds : List Dat} : zipD ds ds = ds.map fun x => .tup [x, x] := by
  induction ds with
  | nil => rfl
  | cons a l ih =>
    unfold zipD
    rw [ih]
    rfl
theorem s_like : ∀ (n : Nat) (hn : n ≤ 60) (d : Dat) (h : gd n d) (k : Nat), Phi tab fu (k + n + 2) 31 [d, d] st = .ok (.bl true) st := by
  have flat : ∀ (n : Nat) (hn : n ≤ 60) (d : Dat) (h : gd n d) (k : Nat), sortN d < 4 → Phi tab fu (k + 2) 31 [d, d] st = .ok (.bl true) st := by
    intro n hn d h k hs
    rw [phi_ap (fn := f__law_like) rfl rfl]
    have g := s_sort (fu := fu) (k := k) (st := st) h.plain
    have e := eq_refl_gd h hn
    have q1 : sortN d ≠ 6 := by omega
    have q2 : sortN d ≠ 4 := by omega
    have q3 : sortN d ≠ 5 := by omega
    simp [f__law_like, b__law_like, g, cmp_ne, cmp_eq, cmp_in, in45, q1, q2, q3, e]
  intro n
  induction n with
  | zero =>
    intro hn d h k
    by_cases hs : sortN d < 4
    · exact flat 0 hn d h k hs
    · cases d <;> first | (exact absurd (show (0 : Int) < 4 from by decide) hs) | (exact absurd (show (1 : Int) < 4 from by decide) hs) | (exact absurd (show (2 : Int) < 4 from by decide) hs) | (exact absurd (show (3 : Int) < 4 from by decide) hs) | (exact h.elim) | skip
      · rename_i ds
        match ds, h with
        | d :: _, h => exact (h.2 d List.mem_cons_self).elim
        | [], h =>
          have g := s_sort (fu := fu) (k := k) (st := st) h.plain
          show Phi tab fu (k + 1 + 1) 31 _ st = _
          rw [phi_ap (fn := f__law_like) rfl rfl]
          simp only [sortN] at g
          simp [f__law_like, b__law_like, g, cmp_ne, cmp_eq, cmp_in, in45, zipD, compL, mpure_ap]
          rfl
      · rename_i ds
        match ds, h with
        | d :: _, h => exact (h.2 d List.mem_cons_self).elim
        | [], h =>
          have g := s_sort (fu := fu) (k := k) (st := st) h.plain
          show Phi tab fu (k + 1 + 1) 31 _ st = _
          rw [phi_ap (fn := f__law_like) rfl rfl]
          simp only [sortN] at g
          simp [f__law_like, b__law_like, g, cmp_ne, cmp_eq, cmp_in, in45, zipD, compL, mpure_ap]
          rfl
  | succ n ih =>
    intro hn d h k
    by_cases hs : sortN d < 4
    · exact flat (n + 1) hn d h (k + n + 1) hs
    · have nilf : ∀ ds : List Dat, ds.filterMap (fun _ => (none : Option Dat)) = [] := fun ds => by induction ds <;> simp [*]
      have e0 : opEq (.lst []) (.lst []) = some true := rfl
      cases d <;> first | (exact absurd (show (0 : Int) < 4 from by decide) hs) | (exact absurd (show (1 : Int) < 4 from by decide) hs) | (exact absurd (show (2 : Int) < 4 from by decide) hs) | (exact absurd (show (3 : Int) < 4 from by decide) hs) | (exact h.elim) | skip
      · rename_i ds
        have g := s_sort (fu := fu) (k := k + n + 1) (st := st) h.plain
        show Phi tab fu (k + n + 2 + 1) 31 _ st = _
        rw [phi_ap (fn := f__law_like) rfl rfl]
        simp only [sortN] at g
        simp [f__law_like, b__law_like, g, cmp_ne, cmp_eq, cmp_in, in45, zipD_self]
        rw [compL_map (h := fun _ => none)]
        rotate_left
        · intro x hx
          have := ih (by omega) x (h.2 x hx) k
          simp [compB, this]
        simp [nilf, e0]
      · rename_i ds
        have g := s_sort (fu := fu) (k := k + n + 1) (st := st) h.plain
        show Phi tab fu (k + n + 2 + 1) 31 _ st = _
        rw [phi_ap (fn := f__law_like) rfl rfl]
        simp only [sortN] at g
        simp [f__law_like, b__law_like, g, cmp_ne, cmp_eq, cmp_in, in45, zipD_self]
        rw [compL_map (h := fun _ => none)]
        rotate_left
        · intro x hx
          have := ih (by omega) x (h.2 x hx) k
          simp [compB, this]
        simp [nilf, e0]
end
end K80
end
-- M9
section
set_option maxRecDepth 100000
set_option maxHeartbeats 4000000
set_option linter.all false
set_option Elab.async false
namespace K80
open PySem Fw
def valN (zs : List Str) (p : (Str × Int) × Int) : Int := if p.1.1 ∈ zs then 0 else p.2 + 1
theorem behind_alt {zs : List Str} : ∀ {fs : List (Str × Int)} {ws : List Int}, behindN fs ws zs = if (fs.zip ws).all (fun p => decide (valN zs p < p.1.2)) then some ((fs.zip ws).map (valN zs)) else none := by
  have h1 : ∀ (fs : List (Str × Int)) (ws : List Int), ((ws.zip fs).map fun p => if p.2.1 ∈ zs then (0 : Int) else p.1 + 1) = (fs.zip ws).map (valN zs) := by
    intro fs
    induction fs with
    | nil => intro ws; cases ws <;> rfl
    | cons f fs ih =>
      intro ws
      cases ws with
      | nil => rfl
      | cons w ws => simp only [List.zip_cons_cons, List.map_cons, ih ws]; rfl
  have h2 : ∀ (fs : List (Str × Int)) (ws : List Int), ((((fs.zip ws).map (valN zs)).zip fs).all fun p => decide (p.1 < p.2.2)) = (fs.zip ws).all fun p => decide (valN zs p < p.1.2) := by
    intro fs
    induction fs with
    | nil => intro ws; cases ws <;> rfl
    | cons f fs ih =>
      intro ws
      cases ws with
      | nil => rfl
      | cons w ws => simp only [List.zip_cons_cons, List.map_cons, List.all_cons, ih ws]
  intro fs ws
  unfold behindN
  simp only
  rw [h1, h2]
theorem played_cons {fs : List (Str × Int)} {ws : List Int} {zs : List Str} {r : List (List Str)} : playedN fs ws (zs :: r) = (behindN fs ws zs).bind fun ws' => playedN fs ws' r := by
  show (match behindN fs ws zs with
    | none => none
    | some ws' => playedN fs ws' r) = _
  generalize behindN fs ws zs = o
  cases o <;> rfl
section
variable {fu k : Nat} {st : Store} {fs : List (Str × Int)} {many : Int}
theorem lbehind_loop {Φ : Nat → List Dat → M Dat} {A B : Sl} {zs : List Str} : ∀ (l : List ((Str × Int) × Int)) (acc : List Int) (s4 s5 s6 : Sl), (∀ p ∈ l, 0 ≤ p.2 ∧ p.2 < p.1.2) → acc.length + l.length ≤ 1000 →
    ∃ t4 t5 t6, forL (fun ρ => exes Φ fu (.cons (.asg 3 (.bin .Add (.var 3) (.tup (.cons (.ife (.cmp .In (.var 5) (.var 2)) (.int 0) (.bin .Add (.var 4) (.int 1))) .nil)))) (.cons (.ife (.cmp .Eq (.ix (.var 3) (.neg (.int 1))) (.var 6)) (.cons (.ret .non) .nil) .nil) .nil)) ρ)
      (bindT (.tup (.cons (.tup (.cons (.var 5) (.cons (.var 6) .nil))) (.cons (.var 4) .nil)))) (l.map fun p => .tup [.tup [.str p.1.1, .int p.1.2], .int p.2]) [A, B, .v (.tup (sD zs)), .v (.tup (iD acc)), s4, s5, s6] st =
      if l.all (fun p => decide (valN zs p < p.1.2)) then .ok (.nx [A, B, .v (.tup (sD zs)), .v (.tup (iD (acc ++ l.map (valN zs)))), t4, t5, t6]) st else .ok (.ret .non) st
  | [], acc, s4, s5, s6, _, _ => ⟨s4, s5, s6, by simp⟩
  | ((x, d), w) :: l, acc, s4, s5, s6, h, hl => by
    have hp : 0 ≤ w ∧ w < d := h _ List.mem_cons_self
    obtain ⟨t4, t5, t6, e⟩ := lbehind_loop (Φ := Φ) (A := A) (B := B) (zs := zs) l (acc ++ [valN zs ((x, d), w)]) (.v (.int w)) (.v (.str x)) (.v (.int d)) (fun q hq => h q (List.mem_cons_of_mem _ hq)) (by simp at hl ⊢; omega)
    have hi : opIn st (.str x) (.tup (sD zs)) = some (decide (x ∈ zs)) := in_tup_strs
    have hlen : (iD acc).length + 1 ≤ 16777216 := by simp [iD] at hl ⊢; omega
    have ea : iD acc ++ [.int (valN zs ((x, d), w))] = iD (acc ++ [valN zs ((x, d), w)]) := by simp [iD]
    have el : L2.atI (iD (acc ++ [valN zs ((x, d), w)])) (-1) = some (.int (valN zs ((x, d), w))) := by rw [← ea]; exact atI_last
    refine ⟨t4, t5, t6, ?_⟩
    by_cases hv : valN zs ((x, d), w) < d
    · have e1 : ¬ valN zs ((x, d), w) = d := by omega
      have e2 : ((((x, d), w) :: l).all fun p => decide (valN zs p < p.1.2)) = l.all fun p => decide (valN zs p < p.1.2) := by
        rw [List.all_cons, decide_eq_true hv, Bool.true_and]
      have e3 : acc ++ (((x, d), w) :: l).map (valN zs) = (acc ++ [valN zs ((x, d), w)]) ++ l.map (valN zs) := by simp
      rw [e2, e3, ← e]
      have hv' : (if x ∈ zs then (0 : Int) else w + 1) = valN zs ((x, d), w) := rfl
      simp [cmp_in, hi, hlen, cmp_eq, hv', e1, ea, el]
    · have e1 : valN zs ((x, d), w) = d := by
        unfold valN at hv ⊢
        simp only at hv ⊢
        split at hv
        · omega
        · rename_i hx
          rw [if_neg hx]
          omega
      have e2 : ((((x, d), w) :: l).all fun p => decide (valN zs p < p.1.2)) = false := by
        rw [List.all_cons, decide_eq_false hv, Bool.false_and]
      rw [e2]
      have hv' : (if x ∈ zs then (0 : Int) else w + 1) = valN zs ((x, d), w) := rfl
      simp [cmp_in, hi, hlen, cmp_eq, hv', atI_last, e1]
theorem zip_in {ws : List Int} (W : WOkN fs ws) : ∀ p ∈ fs.zip ws, 0 ≤ p.2 ∧ p.2 < p.1.2 := by
  have sw : ∀ (fs : List (Str × Int)) (ws : List Int) (p : (Str × Int) × Int), p ∈ fs.zip ws → (p.2, p.1) ∈ ws.zip fs := by
    intro fs
    induction fs with
    | nil => intro ws p hp; cases hp
    | cons f fs ih =>
      intro ws p hp
      cases ws with
      | nil => cases hp
      | cons w ws =>
        rw [List.zip_cons_cons] at hp ⊢
        rcases List.mem_cons.mp hp with rfl | hp
        · exact List.mem_cons_self
        · exact List.mem_cons_of_mem _ (ih ws p hp)
  exact fun p hp => W.in_ _ (sw fs ws p hp)
theorem s_lbehind {ws : List Int} {zs : List Str} (F : FOk fs) (W : WOkN fs ws) : Phi tab fu (k + 1) 36 [.tup (fD fs), .tup (iD ws), .tup (sD zs)] st = .ok (optT (behindN fs ws zs)) st := by
  rw [phi_ap (fn := f__law_behind) rfl rfl]
  have h8 := F.eight
  obtain ⟨t4, t5, t6, e⟩ := lbehind_loop (fu := fu) (st := st) (Φ := Phi tab fu k) (A := .v (.tup (fD fs))) (B := .v (.tup (iD ws))) (zs := zs) (fs.zip ws) [] .un .un .un (zip_in W) (by simp; omega)
  rw [behind_alt]
  have ez : zipD (fD fs) (iD ws) = (fs.zip ws).map fun p => Dat.tup [.tup [.str p.1.1, .int p.1.2], .int p.2] := zipD_map
  have en : iD [] = [] := rfl
  rw [en] at e
  simp [f__law_behind, b__law_behind, ez]
  rw [e]
  cases (fs.zip ws).all fun p => decide (valN zs p < p.1.2) <;> simp [optT]
theorem lplayed_loop (F : FOk fs) {D : Sl} : ∀ (dss : List (List Str)) (o : Option (List Int)) (sl : Sl), (∀ ws, o = some ws → WOkN fs ws) →
    ∃ sl', forL (fun ρ => exes (Phi tab fu (k + 1)) fu (.cons (.asg 1 (.ife (.cmp .IsNot (.var 1) .non) (.call 36 (.cons (.var 0) (.cons (.var 1) (.cons (.var 3) .nil)))) .non)) .nil) ρ) (bindT (.var 3)) (dD dss) [.v (.tup (fD fs)), .v (optT o), D, sl] st =
      .ok (.nx [.v (.tup (fD fs)), .v (optT (o.bind fun ws => playedN fs ws dss)), D, sl']) st
  | [], o, sl, _ => ⟨sl, by cases o <;> rfl⟩
  | zs :: r, o, sl, h => by
    cases o with
    | none =>
      obtain ⟨sl', e⟩ := lplayed_loop F (D := D) r none (.v (.tup (sD zs))) (fun ws e => by cases e)
      refine ⟨sl', ?_⟩
      show forL _ _ (.tup (sD zs) :: dD r) _ st = _
      simp only [Option.bind_none] at e ⊢
      rw [← e]
      simp [optT]
    | some ws =>
      have W := h ws rfl
      obtain ⟨sl', e⟩ := lplayed_loop F (D := D) r (behindN fs ws zs) (.v (.tup (sD zs))) (fun ws' e => behind_ok W e)
      have g := s_lbehind (fu := fu) (k := k) (st := st) (zs := zs) F W
      refine ⟨sl', ?_⟩
      show forL _ _ (.tup (sD zs) :: dD r) _ st = _
      have e2 : ((some ws).bind fun ws => playedN fs ws (zs :: r)) = (behindN fs ws zs).bind fun ws => playedN fs ws r := by
          exact played_cons
      rw [e2, ← e]
      have o1 : optT (some ws) = .tup (iD ws) := rfl
      simp [o1, g]
theorem s_lplayed {ws : List Int} {dss : List (List Str)} (F : FOk fs) (W : WOkN fs ws) : Phi tab fu (k + 2) 41 [.tup (fD fs), .tup (iD ws), .tup (dD dss)] st = .ok (optT (playedN fs ws dss)) st := by
  rw [phi_ap (fn := f__law_played) rfl rfl]
  obtain ⟨sl', e⟩ := lplayed_loop (fu := fu) (k := k) (st := st) F (D := .v (.tup (dD dss))) dss (some ws) .un (fun ws' e => by cases e; exact W)
  have o1 : optT (some ws) = .tup (iD ws) := rfl
  rw [o1] at e
  simp only [Option.bind_some] at e
  simp [f__law_played, b__law_played]
  rw [e]
  simp
end
end K80
end
-- M10
section
set_option maxRecDepth 100000
set_option maxHeartbeats 4000000
set_option linter.all false
set_option Elab.async false
namespace K80
open PySem Fw
/-! the longest wait: the law's way -/
def runB : Int → Int → List Bool → Int × Int
  | f, h, [] => (f, h)
  | f, h, true :: r => runB (if (0 : Int) > f then 0 else f) 0 r
  | f, h, false :: r => runB (if h + 1 > f then h + 1 else f) (h + 1) r
def longN (b : List Bool) : Option Int := if b.any id then some (runB 0 0 (b ++ (b ++ b))).1 else none
theorem runB_append : ∀ (b c : List Bool) (f h : Int), runB f h (b ++ c) = runB (runB f h b).1 (runB f h b).2 c
  | [], _, _, _ => rfl
  | true :: b, c, f, h => by
    show runB _ _ (b ++ c) = _
    rw [runB_append b c]
    rfl
  | false :: b, c, f, h => by
    show runB _ _ (b ++ c) = _
    rw [runB_append b c]
    rfl
/-- the greatest gap, h days behind the last day that had it -/
def gapM : Int → List Bool → Int
  | h, [] => h
  | h, true :: r => max h (gapM 0 r)
  | h, false :: r => gapM (h + 1) r
def endH : Int → List Bool → Int
  | h, [] => h
  | _, true :: r => endH 0 r
  | h, false :: r => endH (h + 1) r
theorem gapM_ge : ∀ (r : List Bool) (h : Int), h ≤ gapM h r
  | [], h => Int.le_refl _
  | true :: r, h => by show h ≤ max h _; omega
  | false :: r, h => by
    show h ≤ gapM (h + 1) r
    have := gapM_ge r (h + 1)
    omega
theorem run_gap : ∀ (r : List Bool) (f h : Int), 0 ≤ h → h ≤ f → runB f h r = (max f (gapM h r), endH h r)
  | [], f, h, _, hf => by show (f, h) = (max f h, h); rw [Int.max_eq_left hf]
  | true :: r, f, h, h0, hf => by
    show runB (if (0 : Int) > f then 0 else f) 0 r = (max f (max h (gapM 0 r)), endH 0 r)
    rw [if_neg (by omega), run_gap r f 0 (by omega) (by omega)]
    congr 1
    omega
  | false :: r, f, h, h0, hf => by
    show runB (if h + 1 > f then h + 1 else f) (h + 1) r = (max f (gapM (h + 1) r), endH (h + 1) r)
    have hg := gapM_ge r (h + 1)
    rw [run_gap r _ (h + 1) (by omega) (by split <;> omega)]
    congr 1
    split <;> omega
/-- .. the gaps within, and that behind the last joined to p -/
def gapL : Int → Int → List Bool → List Int
  | p, h, [] => [h + p]
  | p, h, true :: r => h :: gapL p 0 r
  | p, h, false :: r => gapL p (h + 1) r
theorem maxI_eq (l : List Int) (m x : Int) (h1 : ∀ y ∈ l, y ≤ x) (h2 : m ≤ x) (h3 : x = m ∨ x ∈ l) : maxI m l = x := by
  obtain ⟨a, b, c⟩ := maxI_spec m l
  rcases h3 with h3 | h3
  · subst h3
    rcases a with a | a
    · exact a
    · have := h1 _ a; omega
  · have := c x h3
    rcases a with a | a
    · omega
    · have := h1 _ a; omega
theorem endH_nn : ∀ (r : List Bool) (h : Int), 0 ≤ h → 0 ≤ endH h r
  | [], h, h0 => h0
  | true :: r, h, _ => endH_nn r 0 (by omega)
  | false :: r, h, h0 => endH_nn r (h + 1) (by omega)
/-- the greatest of gapL: that within, or the end joined to p -/
theorem gapL_max : ∀ (r : List Bool) (p h : Int), 0 ≤ p → 0 ≤ h → (∀ y ∈ gapL p h r, y ≤ max (gapM h r) (endH h r + p)) ∧ max (gapM h r) (endH h r + p) ∈ gapL p h r
  | [], p, h, hp, h0 => by
    have e : max h (h + p) = h + p := by omega
    refine ⟨fun y hy => ?_, ?_⟩
    · rw [List.mem_singleton.mp hy]; show h + p ≤ max h (h + p); omega
    · show max h (h + p) ∈ [h + p]; rw [e]; exact List.mem_singleton.mpr rfl
  | true :: r, p, h, hp, h0 => by
    obtain ⟨a, b⟩ := gapL_max r p 0 hp (by omega)
    have e : max (max h (gapM 0 r)) (endH 0 r + p) = max h (max (gapM 0 r) (endH 0 r + p)) := by omega
    refine ⟨fun y hy => ?_, ?_⟩
    · show y ≤ max (max h (gapM 0 r)) (endH 0 r + p)
      rcases List.mem_cons.mp hy with rfl | hy
      · omega
      · have := a y hy; omega
    · show max (max h (gapM 0 r)) (endH 0 r + p) ∈ h :: gapL p 0 r
      rw [e]
      rcases Int.le_total (max (gapM 0 r) (endH 0 r + p)) h with q | q
      · rw [Int.max_eq_left q]; exact List.mem_cons_self
      · rw [Int.max_eq_right q]; exact List.mem_cons_of_mem _ b
  | false :: r, p, h, hp, h0 => gapL_max r p (h + 1) hp (by omega)
/-- positions, from i on -/
def posF : Nat → List Bool → List Int
  | _, [] => []
  | i, true :: r => (i : Int) :: posF (i + 1) r
  | i, false :: r => posF (i + 1) r
theorem posN_eq (b : List Bool) : posN b = posF 0 b := by
  have gen : ∀ (b : List Bool) (i : Nat), ((b.zipIdx i).filterMap fun p => if p.1 = true then some (p.2 : Int) else none) = posF i b := by
    intro b
    induction b with
    | nil => intro i; rfl
    | cons t r ih =>
      intro i
      rw [List.zipIdx_cons, List.filterMap_cons]
      cases t
      · simp [posF, ih]
      · simp [posF, ih]
  exact gen b 0
/-- the gaps of the positions behind one at q -/
theorem gaps_eq : ∀ (r : List Bool) (i : Nat) (q T : Int), gapsN (q :: posF i r) (posF i r ++ [T]) = gapL (T - (i : Int) - (r.length : Int)) ((i : Int) - q - 1) r
  | [], i, q, T => by
    show [T - q - 1] = [((i : Int) - q - 1) + (T - (i : Int) - 0)]
    congr 1
    omega
  | true :: r, i, q, T => by
    show ((i : Int) - q - 1) :: gapsN ((i : Int) :: posF (i + 1) r) (posF (i + 1) r ++ [T]) = ((i : Int) - q - 1) :: gapL (T - (i : Int) - ((r.length + 1 : Nat) : Int)) 0 r
    rw [gaps_eq r (i + 1) i T]
    congr 2 <;> omega
  | false :: r, i, q, T => by
    show gapsN (q :: posF (i + 1) r) (posF (i + 1) r ++ [T]) = gapL (T - (i : Int) - ((r.length + 1 : Nat) : Int)) ((i : Int) - q - 1 + 1) r
    rw [gaps_eq r (i + 1) q T]
    congr 1 <;> omega
/-- the days up to the first that has it -/
theorem lead : ∀ (b : List Bool), b.any id = true → ∃ (p : Nat) (r : List Bool), b = List.replicate p false ++ true :: r
  | true :: r, _ => ⟨0, r, rfl⟩
  | false :: r, h => by
    obtain ⟨p, r', e⟩ := lead r (by simpa using h)
    exact ⟨p + 1, r', by rw [e]; rfl⟩
theorem posF_lead : ∀ (p i : Nat) (r : List Bool), posF i (List.replicate p false ++ true :: r) = ((i + p : Nat) : Int) :: posF (i + p + 1) r
  | 0, i, r => rfl
  | p + 1, i, r => by
    show posF (i + 1) (List.replicate p false ++ true :: r) = _
    rw [posF_lead p (i + 1) r]
    have e1 : i + 1 + p = i + (p + 1) := by omega
    rw [e1]
theorem gapM_lead : ∀ (p : Nat) (h : Int) (r : List Bool), gapM h (List.replicate p false ++ true :: r) = max (h + p) (gapM 0 r) ∧ endH h (List.replicate p false ++ true :: r) = endH 0 r
  | 0, h, r => ⟨by show max h (gapM 0 r) = _; omega, rfl⟩
  | p + 1, h, r => by
    obtain ⟨a, b⟩ := gapM_lead p (h + 1) r
    refine ⟨?_, b⟩
    show gapM (h + 1) (List.replicate p false ++ true :: r) = _
    rw [a]
    omega
theorem any_false_pos : ∀ (b : List Bool) (i : Nat), b.any id = false → posF i b = []
  | [], _, _ => rfl
  | true :: r, _, h => by simp at h
  | false :: r, i, h => any_false_pos r (i + 1) (by simpa using h)
theorem wait_long (b : List Bool) : waitN b = longN b := by
  unfold waitN longN
  rw [posN_eq]
  cases hb : b.any id with
  | false =>
    rw [any_false_pos b 0 hb]
    rfl
  | true =>
    obtain ⟨p, r, rfl⟩ := lead b hb
    rw [posF_lead]
    simp only [if_true]
    have hlen : ((List.replicate p false ++ true :: r).length : Int) = p + 1 + r.length := by simp; omega
    rw [gaps_eq, hlen]
    have e1 : (((0 + p : Nat) : Int) + ((p : Int) + 1 + (r.length : Int)) - ((0 + p + 1 : Nat) : Int) - (r.length : Int)) = p := by omega
    have e2 : (((0 + p + 1 : Nat) : Int) - ((0 + p : Nat) : Int) - 1) = 0 := by omega
    rw [e1, e2]
    obtain ⟨a, b⟩ := gapL_max r p 0 (by omega) (by omega)
    generalize hX : max (gapM 0 r) (endH 0 r + p) = X at a b
    have goal2 : (runB 0 0 (List.replicate p false ++ true :: r ++ (List.replicate p false ++ true :: r ++ (List.replicate p false ++ true :: r)))).1 = X := by
      have hE := endH_nn r 0 (by omega)
      have hG := gapM_ge r 0
      rw [runB_append, run_gap _ 0 0 (by omega) (by omega)]
      obtain ⟨g1, g2⟩ := gapM_lead p 0 r
      rw [g1, g2, runB_append]
      have hEg : ∀ (r : List Bool) (h : Int), endH h r ≤ gapM h r := by
        intro r
        induction r with
        | nil => intro h; exact Int.le_refl _
        | cons t r ih =>
          intro h
          cases t
          · exact ih (h + 1)
          · show endH 0 r ≤ max h (gapM 0 r)
            have := ih 0
            omega
      have hEG := hEg r 0
      rw [run_gap _ _ _ hE (by simp only; omega)]
      obtain ⟨g3, g4⟩ := gapM_lead p (endH 0 r) r
      simp only
      rw [g3, g4, run_gap _ _ _ hE (by omega), g3, ← hX]
      simp only
      omega
    rw [goal2]
    cases hg : gapL (p : Int) 0 r with
    | nil => rw [hg] at b; cases b
    | cons g gs =>
      rw [hg] at a b
      show some (maxI g gs) = some X
      rw [maxI_eq gs g X (fun y hy => a y (List.mem_cons_of_mem _ hy)) (a g List.mem_cons_self) (List.mem_cons.mp b)]
end K80
end
-- M11
section
set_option maxRecDepth 100000
set_option maxHeartbeats 4000000
set_option linter.all false
set_option Elab.async false
namespace K80
open PySem Fw
section
variable {fu k : Nat} {st : Store} {fs : List (Str × Int)} {many : Int}
theorem long_loop {Φ : Nat → List Dat → M Dat} {A : Sl} {x : Str} : ∀ (l : List (List Str)) (f h : Int) (sl : Sl),
    ∃ t, forL (fun ρ => exes Φ fu (.cons (.asg 4 (.ife (.cmp .In (.var 1) (.var 2)) (.int 0) (.bin .Add (.var 4) (.int 1)))) (.cons (.asg 3 (.bi .max (.cons (.var 3) (.cons (.var 4) .nil)))) .nil)) ρ) (bindT (.var 2)) (dD l) [A, .v (.str x), sl, .v (.int f), .v (.int h)] st =
      .ok (.nx [A, .v (.str x), t, .v (.int (runB f h (hasN x l)).1), .v (.int (runB f h (hasN x l)).2)]) st
  | [], f, h, sl => ⟨sl, rfl⟩
  | zs :: l, f, h, sl => by
    have hi : opIn st (.str x) (.tup (sD zs)) = some (decide (x ∈ zs)) := in_tup_strs
    by_cases hx : x ∈ zs
    · obtain ⟨t, e⟩ := long_loop (Φ := Φ) (A := A) (x := x) l (if (0 : Int) > f then 0 else f) 0 (.v (.tup (sD zs)))
      refine ⟨t, ?_⟩
      have er : runB f h (hasN x (zs :: l)) = runB (if (0 : Int) > f then 0 else f) 0 (hasN x l) := by
        show runB f h (decide (x ∈ zs) :: hasN x l) = _
        rw [decide_eq_true hx]
        rfl
      rw [er, ← e]
      show forL _ _ (.tup (sD zs) :: dD l) _ st = _
      simp [cmp_in, hi, hx]
    · obtain ⟨t, e⟩ := long_loop (Φ := Φ) (A := A) (x := x) l (if h + 1 > f then h + 1 else f) (h + 1) (.v (.tup (sD zs)))
      refine ⟨t, ?_⟩
      have er : runB f h (hasN x (zs :: l)) = runB (if h + 1 > f then h + 1 else f) (h + 1) (hasN x l) := by
        show runB f h (decide (x ∈ zs) :: hasN x l) = _
        rw [decide_eq_false hx]
        rfl
      rw [er, ← e]
      show forL _ _ (.tup (sD zs) :: dD l) _ st = _
      simp [cmp_in, hi, hx]
theorem any_filter (x : Str) : ∀ dss : List (List Str), (dss.filterMap fun zs => if decide (x ∈ zs) = true then some (Dat.tup (sD zs)) else none).isEmpty = !(hasN x dss).any id
  | [] => rfl
  | zs :: r => by
    have ih := any_filter x r
    show (List.filterMap _ (zs :: r)).isEmpty = !(decide (x ∈ zs) || (hasN x r).any id)
    rw [List.filterMap_cons]
    by_cases hx : x ∈ zs
    · simp [hx]
    · simp only [hx, decide_false, Bool.false_or]
      exact ih
theorem gd_filter {n : Nat} {ds es : List Dat} (h : gd (n + 1) (.tup ds)) (hs : ∀ d ∈ es, d ∈ ds) (hl : es.length ≤ ds.length) : gd (n + 1) (.lst es) :=
  ⟨Nat.le_trans hl h.1, fun d hd => h.2 d (hs d hd)⟩
theorem s_llongest {dss : List (List Str)} {x : Str} {n : Nat} (hn : n ≤ 50) (h1 : 1 ≤ dss.length) (h2 : dss.length ≤ 100000) (hg : gd (n + 1) (.tup (dD dss))) : Phi tab fu (k + 1) 39 [.tup (dD dss), .str x] st = .ok (optD (longN (hasN x dss))) st := by
  rw [phi_ap (fn := f__law_longest) rfl rfl]
  obtain ⟨t, e⟩ := long_loop (fu := fu) (st := st) (Φ := Phi tab fu k) (A := .v (.tup (dD dss))) (x := x) (dss ++ (dss ++ dss)) 0 0 .un
  have em : opBin .Mult (.tup (dD dss)) (.int 3) = some (.tup (dD (dss ++ (dss ++ dss)))) := by
    show (if dD dss ≠ [] ∧ (1 : Int) ≤ 3 ∧ (3 : Int) * ((dD dss).length : Int) ≤ 1000000 then some (Dat.tup (List.replicate (3 : Int).toNat (dD dss)).flatten) else none) = _
    rw [if_pos ⟨fun z => by have := congrArg List.length z; simp [dD] at this; simp [this] at h1, by decide, by simp [dD]; omega⟩]
    simp [dD, List.replicate_succ, List.map_append]
  have eh : hasN x (dss ++ (dss ++ dss)) = hasN x dss ++ (hasN x dss ++ hasN x dss) := by simp [hasN]
  rw [eh] at e
  simp [f__law_longest, b__law_longest, em]
  rw [e]
  have hL := any_filter x dss
  have hM : ∀ d ∈ (dss.filterMap fun zs => if decide (x ∈ zs) = true then some (Dat.tup (sD zs)) else none), d ∈ dD dss := fun d hd => by
    obtain ⟨zs, hz, e⟩ := List.mem_filterMap.mp hd
    split at e
    · cases e; exact List.mem_map_of_mem hz
    · cases e
  have hN : (dss.filterMap fun zs => if decide (x ∈ zs) = true then some (Dat.tup (sD zs)) else none).length ≤ (dD dss).length := by
    simp only [dD, List.length_map]
    exact List.length_filterMap_le _ _
  have hE := eq_nil (gd_filter hg hM hN) (by omega)
  have hc : ∀ A B C D : Sl, compL (compB (Phi tab fu k) [2] (.var 2) (.var 2) (.cons (.cmp .In (.var 1) (.var 2)) .nil) [A, .v (.str x), B, C, D]) (dD dss) st = .ok (dss.filterMap fun zs => if decide (x ∈ zs) = true then some (Dat.tup (sD zs)) else none) st := fun A B C D => by
    unfold dD
    refine compL_map fun zs _ => ?_
    have hi : opIn st (.str x) (.tup (sD zs)) = some (decide (x ∈ zs)) := in_tup_strs
    simp [compB, cmp_in, hi]
  unfold longN
  generalize (runB 0 0 (hasN x dss ++ (hasN x dss ++ hasN x dss))) = R
  generalize (dss.filterMap fun zs => if decide (x ∈ zs) = true then some (Dat.tup (sD zs)) else none) = L at *
  have hl2 : L.length ≤ 16777216 := by simp [dD] at hN; omega
  simp [hc, hl2, cmp_ne, hE, hL]
  by_cases hq : true ∈ hasN x dss <;> simp [hq, optD]
end
end K80
end
-- M12
section
set_option maxRecDepth 100000
set_option maxHeartbeats 4000000
set_option linter.all false
set_option Elab.async false
namespace K80
open PySem Fw
/-! rising, and sorted(set(..)) -/
theorem ltS_leS {a b : Str} (h : ltS a b = true) : leS a b = true := by
  unfold ltS at h
  unfold leS
  have h := of_decide_eq_true h
  rw [decide_eq_false (List.lt_asymm h)]
  rfl
theorem ltS_ne {a b : Str} (h : ltS a b = true) : a ≠ b := fun e => by
  subst e
  exact List.lt_irrefl _ (of_decide_eq_true h)
theorem leS_ltS {a b : Str} (h : leS a b = true) (hn : a ≠ b) : ltS a b = true := by
  unfold leS at h
  unfold ltS
  have h : ¬ b.cps.toList < a.cps.toList := by simpa using h
  refine decide_eq_true ?_
  rcases List.le_iff_lt_or_eq.mp (List.not_lt.mp h) with q | q
  · exact q
  · exact absurd (by cases a; cases b; simp at q; rw [q]) hn
theorem rising_pairs : ∀ zs : List Str, risingN zs = true ↔ zs.Pairwise (fun a b => ltS a b = true)
  | [] => ⟨fun _ => .nil, fun _ => rfl⟩
  | [a] => ⟨fun _ => by simp, fun _ => rfl⟩
  | a :: b :: r => by
    have ih := rising_pairs (b :: r)
    constructor
    · intro h
      have h' : (ltS a b && risingN (b :: r)) = true := h
      rw [Bool.and_eq_true] at h'
      have p := ih.mp h'.2
      refine List.pairwise_cons.mpr ⟨fun c hc => ?_, p⟩
      rcases List.mem_cons.mp hc with rfl | hc
      · exact h'.1
      · have h2 := (List.pairwise_cons.mp p).1 c hc
        have l1 := of_decide_eq_true h'.1
        have l2 := of_decide_eq_true h2
        exact decide_eq_true (List.lt_trans l1 l2)
    · intro p
      show (ltS a b && risingN (b :: r)) = true
      rw [(List.pairwise_cons.mp p).1 b List.mem_cons_self, ih.mpr (List.pairwise_cons.mp p).2]
      rfl
theorem dedS_id : ∀ {zs : List Str}, zs.Nodup → dedS zs = zs
  | [], _ => rfl
  | z :: r, h => by
    obtain ⟨h1, h2⟩ := List.nodup_cons.mp h
    unfold dedS
    rw [if_neg h1, dedS_id h2]
theorem rising_sorted (zs : List Str) : decide (zs = sortS (dedS zs)) = risingN zs := by
  cases hr : risingN zs with
  | true =>
    have p := (rising_pairs zs).mp hr
    have nd : zs.Nodup := p.imp fun h => ltS_ne h
    rw [dedS_id nd]
    exact decide_eq_true (sortS_of (List.Perm.refl _) (p.imp fun h => ltS_leS h))
  | false =>
    refine decide_eq_false fun e => ?_
    have nd : zs.Nodup := by rw [e]; exact (sortS_perm _).nodup_iff.mpr nodup_dedS
    have so : zs.Pairwise fun a b => leS a b = true := by rw [e]; exact sortS_sorted _
    have : risingN zs = true := (rising_pairs zs).mpr (List.Pairwise.imp₂ (fun a b h1 h2 => leS_ltS h1 h2) so nd)
    rw [hr] at this
    cases this
theorem eqvAll_strs : ∀ a b : List Str, PyData.eqvAll (toPs (sD a)) (toPs (sD b)) = decide (a = b)
  | [], [] => rfl
  | [], _ :: _ => rfl
  | _ :: _, [] => rfl
  | x :: a, y :: b => by
    show ((x == y) && PyData.eqvAll (toPs (sD a)) (toPs (sD b))) = _
    rw [eqvAll_strs a b]
    by_cases h1 : x = y
    · subst h1; by_cases h2 : a = b <;> simp [h2]
    · have : (x == y) = false := beq_eq_false_iff_ne.mpr h1
      simp [this, h1]
theorem eq_strs {n m : Nat} {a b : List Str} (ha : gd n (.lst (sD a))) (hb : gd m (.lst (sD b))) (hn : n ≤ 60) (hm : m ≤ 60) : opEq (.lst (sD a)) (.lst (sD b)) = some (decide (a = b)) := by
  rw [eq_gd ha hb hn hm]
  exact congrArg some (eqvAll_strs a b)
end K80
end
-- M13
section
set_option maxRecDepth 100000
set_option maxHeartbeats 4000000
set_option linter.all false
set_option Elab.async false
namespace K80
open PySem Fw
theorem amongs_nil {names : List Str} : ∀ ds : List Dat, (ds.filterMap fun d => if amongN names d = true then none else some d).isEmpty = ds.all (amongN names)
  | [] => rfl
  | d :: ds => by
    rw [List.filterMap_cons, List.all_cons]
    cases amongN names d with
    | true => simpa using amongs_nil ds
    | false => rfl
theorem among_plain {names : List Str} {d : Dat} : amongN names d = true → sortN d = 3 := fun h => by
  cases d <;> first | rfl | exact absurd h Bool.false_ne_true
theorem gd_sD {n : Nat} {zs ws : List Str} (h : gd n (.tup (sD zs))) (hm : ∀ z ∈ ws, z ∈ zs) (hl : ws.length ≤ zs.length) : gd n (.lst (sD ws)) := by
  have hlen : (sD ws).length ≤ (sD zs).length := by simpa [sD] using hl
  have hmem : ∀ d ∈ sD ws, d ∈ sD zs := fun d hd => by
    obtain ⟨z, hz, rfl⟩ := List.mem_map.mp hd
    exact List.mem_map_of_mem (hm z hz)
  cases n with
  | zero => exact ⟨Nat.le_trans hlen h.1, fun d hd => h.2 d (hmem d hd)⟩
  | succ n => exact ⟨Nat.le_trans hlen h.1, fun d hd => h.2 d (hmem d hd)⟩
theorem dedS_len : ∀ zs : List Str, (dedS zs).length ≤ zs.length
  | [] => Nat.le_refl _
  | z :: r => by
    unfold dedS
    have := dedS_len r
    split <;> simp <;> omega
theorem sset_strs {st : Store} {zs : List Str} (h : zs.length < 64) : ssetD st (.tup (sD zs)) = some (.lst (sD (sortS (dedS zs)))) ∧ ssetD st (.lst (sD zs)) = some (.lst (sD (sortS (dedS zs)))) := by
  have e : strsOf (sD zs) = some zs := by
    have := strsOf_map zs id
    simpa [sD] using this
  constructor
  · show (match strsOf (sD zs) with
      | some zs => if zs.length < 64 then some (Dat.lst ((sortS (dedS zs)).map Dat.str)) else none
      | none => none) = _
    rw [e]
    show (if zs.length < 64 then some (Dat.lst ((sortS (dedS zs)).map Dat.str)) else none) = _
    rw [if_pos h]
    rfl
  · show (match strsOf (sD zs) with
      | some zs => if zs.length < 64 then some (Dat.lst ((sortS (dedS zs)).map Dat.str)) else none
      | none => none) = _
    rw [e]
    show (if zs.length < 64 then some (Dat.lst ((sortS (dedS zs)).map Dat.str)) else none) = _
    rw [if_pos h]
    rfl
theorem sset_mem {zs : List Str} {z : Str} : z ∈ sortS (dedS zs) → z ∈ zs := fun h => mem_dedS.mp ((sortS_perm _).mem_iff.mp h)
theorem sset_len (zs : List Str) : (sortS (dedS zs)).length ≤ zs.length := by rw [(sortS_perm _).length_eq]; exact dedS_len zs
section
variable {fu k : Nat} {st : Store} {fs : List (Str × Int)} {many : Int}
theorem day_loop {A B C : Sl} {names : List Str} {n : Nat} (hn : n ≤ 50) (hm : many ≤ 60) : ∀ (l : List Dat) (s4 s5 s6 : Sl), (∀ d ∈ l, gd (n + 1) d) →
    ∃ t4, forL (fun ρ => exes (Phi tab fu (k + 1)) fu (.cons (.ife (.bool .Or (.cons (.not_ (.isi (.var 4) "tuple")) (.cons (.cmp .Gt (.bi .len (.cons (.var 4) .nil)) (.var 1)) (.cons (.cmp .NotEq (.comp [6] (.var 6) (.var 6) (.seq (.var 4)) (.cons (.bool .Or (.cons (.cmp .NotEq (.call 30 (.cons (.var 6) .nil)) (.int 3)) (.cons (.cmp .NotIn (.var 6) (.var 3)) .nil))) .nil)) (.lst .nil)) .nil)))) (.cons (.ret (.bl false)) .nil) .nil) (.cons (.ife (.cmp .NotEq (.bi .list (.cons (.var 4) .nil)) (.sset (.var 4))) (.cons (.ret (.bl false)) .nil) .nil) .nil)) ρ)
      (bindT (.var 4)) l [A, .v (.int many), B, .v (.lst (sD names)), s4, s5, s6] st =
      if l.all (fitsDayN names many) then .ok (.nx [A, .v (.int many), B, .v (.lst (sD names)), t4, s5, s6]) st else .ok (.ret (.bl false)) st
  | [], s4, s5, s6, _ => ⟨s4, rfl⟩
  | d :: l, s4, s5, s6, h => by
    have g := h d List.mem_cons_self
    obtain ⟨t4, e⟩ := day_loop (A := A) (B := B) (C := C) (names := names) hn hm l (.v d) s5 s6 (fun q hq => h q (List.mem_cons_of_mem _ hq))
    refine ⟨t4, ?_⟩
    have no : ∀ {X : Res Fl}, fitsDayN names many d = false → (if (d :: l).all (fitsDayN names many) then X else .ok (.ret (.bl false)) st) = .ok (.ret (.bl false)) st := fun hf => by
      rw [List.all_cons, hf, Bool.false_and]
      rfl
    by_cases hd : ∃ ds, d = .tup ds
    · obtain ⟨ds, rfl⟩ := hd
      by_cases hlen : (ds.length : Int) ≤ many
      · have hlen' : ¬ many < (ds.length : Int) := by omega
        have hc : ∀ A B C E F G : Sl, compL (compB (Phi tab fu (k + 1)) [6] (.var 6) (.var 6) (.cons (.bool .Or (.cons (.cmp .NotEq (.call 30 (.cons (.var 6) .nil)) (.int 3)) (.cons (.cmp .NotIn (.var 6) (.var 3)) .nil))) .nil) [A, B, C, .v (.lst (sD names)), E, F, G]) ds st = .ok (ds.filterMap fun d => if amongN names d = true then none else some d) st := fun A B C E F G => by
          refine compL_id fun d hd => ?_
          have hs := s_sort (fu := fu) (k := k) (st := st) (g.tup d hd).plain
          by_cases h3 : sortN d = 3
          · cases d <;> first | (exact absurd (show (0 : Int) = 3 from h3) (by decide)) | (exact absurd (show (1 : Int) = 3 from h3) (by decide)) | (exact absurd (show (2 : Int) = 3 from h3) (by decide)) | (exact absurd (show (4 : Int) = 3 from h3) (by decide)) | (exact absurd (show (5 : Int) = 3 from h3) (by decide)) | (exact absurd (show (6 : Int) = 3 from h3) (by decide)) | skip
            rename_i x
            have hi : opIn st (.str x) (.lst (sD names)) = some (decide (x ∈ names)) := in_lst_strs
            simp only [sortN] at hs
            by_cases hx : x ∈ names <;> simp [compB, hs, cmp_ne, cmp_notin, hi, amongN, hx]
          · have ha : amongN names d = false := by
              cases q : amongN names d with
              | false => rfl
              | true => exact absurd (among_plain q) h3
            simp [compB, hs, cmp_ne, h3, ha]
        have hE := amongs_nil (names := names) ds
        have hgd : gd (n + 1) (.lst (ds.filterMap fun d => if amongN names d = true then none else some d)) := gd_filter g (fun x hx => by
          obtain ⟨y, hy, e⟩ := List.mem_filterMap.mp hx
          split at e
          · cases e
          · cases e; exact hy) (List.length_filterMap_le _ _)
        have hq := eq_nil hgd (by omega)
        have hz : (ds.filterMap fun d => if amongN names d = true then none else some d).length ≤ 16777216 := by
          have := List.length_filterMap_le (fun d => if amongN names d = true then none else some d) ds
          omega
        generalize (ds.filterMap fun d => if amongN names d = true then none else some d) = L at *
        cases ha : ds.all (amongN names) with
        | false =>
          rw [ha] at hE
          have hf : fitsDayN names many (.tup ds) = false := by
            show (decide ((ds.length : Int) ≤ many) && (ds.all (amongN names) && risingN (strsN ds))) = false
            rw [ha, Bool.false_and, Bool.and_false]
          rw [no hf]
          simp [hlen', hc, hz, cmp_ne, hq, hE]
        | true =>
          rw [ha] at hE
          have es := strs_all ha
          generalize hzs : strsN ds = zs at *
          subst es
          have h64 : zs.length < 64 := by simp [sD] at hlen; omega
          have hs := (sset_strs (st := st) h64).1
          have hb : opBi st .list [.tup (sD zs)] = some (.lst (sD zs)) := rfl
          have he := eq_strs (gd_sD g (fun z hz => hz) (Nat.le_refl _)) (gd_sD g (fun z => sset_mem) (sset_len zs)) (by omega) (by omega)
          rw [rising_sorted] at he
          have hf : fitsDayN names many (.tup (sD zs)) = risingN zs := by
            show (decide (((sD zs).length : Int) ≤ many) && ((sD zs).all (amongN names) && risingN (strsN (sD zs)))) = _
            rw [ha, hzs, decide_eq_true hlen]
            rfl
          cases hr : risingN zs with
          | false =>
            rw [hr] at he hf
            rw [no hf]
            simp [hlen', hc, hz, cmp_ne, hq, hE, hs, hb, he]
          | true =>
            rw [hr] at he hf
            rw [List.all_cons, hf, Bool.true_and, ← e]
            simp [hlen', hc, hz, cmp_ne, hq, hE, hs, hb, he]
      · have hlen' : many < (ds.length : Int) := by omega
        have hf : fitsDayN names many (.tup ds) = false := by
          show (decide ((ds.length : Int) ≤ many) && (ds.all (amongN names) && risingN (strsN ds))) = false
          rw [decide_eq_false hlen, Bool.false_and]
        rw [no hf]
        simp [hlen']
    · have hf : fitsDayN names many d = false := by
        cases d <;> first | rfl | (exact absurd ⟨_, rfl⟩ hd)
      rw [no hf]
      cases d <;> first | (exact g.elim) | (exact absurd ⟨_, rfl⟩ hd) | simp
end
end K80
end
-- M14
section
set_option maxRecDepth 100000
set_option maxHeartbeats 4000000
set_option linter.all false
set_option Elab.async false
namespace K80
open PySem Fw
def badP (dss : List (List Str)) (p : Str × Int) : Bool := match longN (hasN p.1 dss) with
  | none => true
  | some w => decide (p.2 ≤ w)
theorem bad_nil {dss : List (List Str)} : ∀ fs : List (Str × Int), (fs.filterMap fun p => if badP dss p = true then some (Dat.int 1) else none).isEmpty = (fs.all fun p => (match waitN (hasN p.1 dss) with
    | none => false
    | some w => decide (w < p.2)))
  | [] => rfl
  | p :: fs => by
    rw [List.filterMap_cons, List.all_cons, ← bad_nil fs, wait_long]
    unfold badP
    cases longN (hasN p.1 dss) with
    | none => rfl
    | some w =>
      by_cases h : p.2 ≤ w
      · have : ¬ w < p.2 := by omega
        simp [h, this]
      · have : w < p.2 := by omega
        simp [h, this]
section
variable {fu k : Nat} {st : Store} {fs : List (Str × Int)} {many : Int}
theorem s_lis_round (F : FOk fs) (hm : many ≤ 60) {v : Dat} {n : Nat} (hn : n ≤ 50) (g : gd (n + 2) v) : Phi tab fu (k + 2) 38 [.tup (fD fs), .int many, v] st = .ok (.bl (fitsRoundN (fs.map (·.1)) many v)) st := by
  rw [phi_ap (fn := f__law_is_round) rfl rfl]
  by_cases hv : ∃ ds, v = .tup ds
  · obtain ⟨ds, rfl⟩ := hv
    by_cases hl : (1 : Int) ≤ ds.length ∧ (ds.length : Int) ≤ 2000
    · obtain ⟨t4, e⟩ := day_loop (fu := fu) (k := k) (st := st) (A := .v (.tup (fD fs))) (B := .v (.tup ds)) (C := .un) (names := fs.map (·.1)) hn hm ds .un .un .un (g.tup)
      have ef : fitsRoundN (fs.map (·.1)) many (.tup ds) = ds.all (fitsDayN (fs.map (·.1)) many) := by
        show (decide (1 ≤ ds.length) && decide (ds.length ≤ 2000) && _) = _
        rw [decide_eq_true (by omega), decide_eq_true (by omega)]
        rfl
      rw [ef]
      have h8 := F.eight
      have hc : compL (compB (Phi tab fu (k + 1)) [5] (.ix (.var 5) (.int 0)) (.var 5) .nil [.v (.tup (fD fs)), .v (.int many), .v (.tup ds), .un, .un, .un, .un]) (fD fs) st = .ok (sD (fs.map (·.1))) st := by
        unfold fD
        rw [compL_some (h := fun p => Dat.str p.1)]
        · simp [sD]
        · intro p _
          simp [compB]
      have hs : (sD (fs.map (·.1))).length ≤ 16777216 := by simp [sD]; omega
      simp [f__law_is_round, b__law_is_round, hl, hc, sized_ok hs]
      rw [e]
      cases ds.all (fitsDayN (fs.map (·.1)) many) <;> simp
    · have ef : fitsRoundN (fs.map (·.1)) many (.tup ds) = false := by
        show (decide (1 ≤ ds.length) && decide (ds.length ≤ 2000) && _) = _
        by_cases h1 : 1 ≤ ds.length
        · rw [decide_eq_true h1, show decide (ds.length ≤ 2000) = false from decide_eq_false (by omega)]; rfl
        · rw [decide_eq_false h1]; rfl
      rw [ef]
      have hl2 : (1 : Int) ≤ ds.length → 2000 < (ds.length : Int) := fun q => by omega
      by_cases h1 : (1 : Int) ≤ ds.length
      · have h2 := hl2 h1
        have h3 : ¬ (ds.length : Int) ≤ 2000 := by omega
        simp [f__law_is_round, b__law_is_round, h1, h3]
      · simp [f__law_is_round, b__law_is_round, h1]
  · have ef : fitsRoundN (fs.map (·.1)) many v = false := by
      cases v <;> first | rfl | (exact absurd ⟨_, rfl⟩ hv)
    rw [ef]
    cases v <;> first | (exact g.elim) | (exact absurd ⟨_, rfl⟩ hv) | simp [f__law_is_round, b__law_is_round]
theorem s_lis_good (F : FOk fs) (hm : many ≤ 60) {v : Dat} {n : Nat} (hn : n ≤ 40) (g : gd (n + 2) v) : Phi tab fu (k + 3) 40 [.tup (fD fs), .int many, v] st = .ok (.bl (fitsGoodN fs many v)) st := by
  rw [phi_ap (fn := f__law_is_good) rfl rfl]
  have g1 := s_lis_round (fu := fu) (k := k) (st := st) F hm (by omega) g
  have h8 := F.eight
  cases hr : fitsRoundN (fs.map (·.1)) many v with
  | false =>
    rw [hr] at g1
    have ef : fitsGoodN fs many v = false := by unfold fitsGoodN; rw [hr]; rfl
    rw [ef]
    simp [f__law_is_good, b__law_is_good, g1]
  | true =>
    rw [hr] at g1
    obtain ⟨e1, e2, e3, e4⟩ := round_of hr
    have ef : fitsGoodN fs many v = fs.all fun p => match waitN (hasN p.1 (dssN v)) with
      | none => false
      | some w => decide (w < p.2) := by unfold fitsGoodN; rw [hr]; rfl
    rw [ef, ← bad_nil]
    clear hr ef
    generalize dssN v = dss at *
    subst e1
    have hl : ∀ x : Str, Phi tab fu (k + 2) 39 [.tup (dD dss), .str x] st = .ok (optD (longN (hasN x dss))) st := fun x => s_llongest (k := k + 1) (n := n + 1) (by omega) e2 (by omega) g
    have hc : ∀ A B C D E : Sl, compL (compB (Phi tab fu (k + 2)) [4, 5] (.tup (.cons (.call 39 (.cons (.var 2) (.cons (.var 4) .nil))) (.cons (.var 5) .nil))) (.tup (.cons (.var 4) (.cons (.var 5) .nil))) .nil [A, B, .v (.tup (dD dss)), C, D, E, .un]) (fD fs) st = .ok (fs.map fun p => .tup [optD (longN (hasN p.1 dss)), .int p.2]) st := fun A B C D E => by
      unfold fD
      refine compL_some fun p _ => ?_
      simp [compB, hl]
    have hd : ∀ A B C D E F : Sl, compL (compB (Phi tab fu (k + 2)) [6, 5] (.int 1) (.tup (.cons (.var 6) (.cons (.var 5) .nil))) (.cons (.bool .Or (.cons (.cmp .Is (.var 6) .non) (.cons (.cmp .GtE (.var 6) (.var 5)) .nil))) .nil) [A, B, C, D, E, F, .un]) (fs.map fun p => .tup [optD (longN (hasN p.1 dss)), .int p.2]) st = .ok (fs.filterMap fun p => if badP dss p = true then some (.int 1) else none) st := fun A B C D E F => by
      refine compL_map fun p _ => ?_
      unfold badP
      cases longN (hasN p.1 dss) with
      | none => simp [compB, optD]
      | some w => by_cases h : p.2 ≤ w <;> simp [compB, optD, h]
    have hll := List.length_filterMap_le (fun p => if badP dss p = true then some (Dat.int 1) else none) fs
    have hgd : gd 1 (.lst (fs.filterMap fun p => if badP dss p = true then some (Dat.int 1) else none)) := ⟨by omega, fun d hd => by
      obtain ⟨p, _, e⟩ := List.mem_filterMap.mp hd
      split at e
      · cases e; trivial
      · cases e⟩
    have hq := eq_nil hgd
    generalize (fs.filterMap fun p => if badP dss p = true then some (Dat.int 1) else none) = L at *
    have hs : L.length ≤ 16777216 := by omega
    have hs2 : fs.length ≤ 16777216 := by omega
    simp [f__law_is_good, b__law_is_good, g1, hc, hd, hs, hs2, cmp_eq, hq]
end
end K80
end
-- M15
section
set_option maxRecDepth 100000
set_option maxHeartbeats 4000000
set_option linter.all false
set_option Elab.async false
namespace K80
open PySem Fw
def both : Str := "abcdefghijklmnopqrstuvwxyz0123456789"
theorem both_eq : both.cps.toList = letters.cps.toList ++ digits.cps.toList := by decide +kernel
theorem in_both {st : Store} {c : Nat} : opIn st (chD c) (.str both) = some (alnum c) := by
  rw [in_str_one, both_eq]
  unfold alnum
  congr 1
  by_cases h1 : c ∈ letters.cps.toList <;> by_cases h2 : c ∈ digits.cps.toList <;> simp [h1, h2]
theorem odd_nil : ∀ cs : List Nat, (cs.filterMap fun c => if alnum c = true then none else some (chD c)).isEmpty = cs.all alnum
  | [] => rfl
  | c :: cs => by
    rw [List.filterMap_cons, List.all_cons]
    cases h : alnum c with
    | true => simpa using odd_nil cs
    | false => simp
def pairOk (d : Dat) : Bool := isNameN (fst2 d) && isWholeN (snd2 d) 1 12
theorem gd_chars {n : Nat} {z : Str} {es : List Dat} (g : gd n (.str z)) (he : ∀ d ∈ es, ∃ c ∈ z.cps.toList, d = chD c) (hl : es.length ≤ z.length) : gd 1 (.lst es) := by
  have g' : z.length ≤ 1000 ∧ z.cps.all (· < 0x110000) = true := by cases n <;> exact g
  refine ⟨by omega, fun d hd => ?_⟩
  obtain ⟨c, hc, rfl⟩ := he d hd
  have h2 := g'.2
  rw [← Array.all_toList, List.all_eq_true] at h2
  have h3 := h2 c hc
  refine ⟨show (1 : Nat) ≤ 1000 by decide, ?_⟩
  show (#[c] : Array Nat).all (· < 0x110000) = true
  simpa using h3
section
variable {fu k : Nat} {st : Store} {fs : List (Str × Int)} {many : Int}
theorem pair_loop {A B : Sl} {n : Nat} : ∀ (l : List (Dat × Dat)) (s2 s3 s4 s5 : Sl), (∀ p ∈ l, gd n p.1 ∧ gd n p.2) →
    ∃ t2 t3, forL (fun ρ => exes (Phi tab fu (k + 1)) fu (.cons (.ife (.bool .Or (.cons (.cmp .NotEq (.call 30 (.cons (.var 2) .nil)) (.int 3)) (.cons (.not_ (.chain (.int 1) .LtE (.bi .len (.cons (.var 2) .nil)) .LtE (.int 12))) (.cons (.cmp .NotIn (.ix (.var 2) (.int 0)) (.str "abcdefghijklmnopqrstuvwxyz")) .nil)))) (.cons (.ret (.bl false)) .nil) .nil) (.cons (.ife (.bool .Or (.cons (.cmp .NotEq (.comp [5] (.var 5) (.var 5) (.seq (.var 2)) (.cons (.cmp .NotIn (.var 5) (.str "abcdefghijklmnopqrstuvwxyz0123456789")) .nil)) (.lst .nil)) (.cons (.cmp .NotEq (.call 30 (.cons (.var 3) .nil)) (.int 2)) (.cons (.not_ (.chain (.int 1) .LtE (.var 3) .LtE (.int 12))) .nil)))) (.cons (.ret (.bl false)) .nil) .nil) .nil)) ρ)
      (bindT (.tup (.cons (.var 2) (.cons (.var 3) .nil)))) (l.map fun p => .tup [p.1, p.2]) [A, B, s2, s3, s4, s5] st =
      if l.all (fun p => isNameN p.1 && isWholeN p.2 1 12) then .ok (.nx [A, B, t2, t3, s4, s5]) st else .ok (.ret (.bl false)) st
  | [], s2, s3, s4, s5, _ => ⟨s2, s3, rfl⟩
  | (x, y) :: l, s2, s3, s4, s5, h => by
    have g := h _ List.mem_cons_self
    obtain ⟨t2, t3, e⟩ := pair_loop (A := A) (B := B) l (.v x) (.v y) s4 s5 (fun q hq => h q (List.mem_cons_of_mem _ hq))
    refine ⟨t2, t3, ?_⟩
    have no : ∀ {X : Res Fl}, (isNameN x && isWholeN y 1 12) = false → (if ((x, y) :: l).all (fun p => isNameN p.1 && isWholeN p.2 1 12) then X else .ok (.ret (.bl false)) st) = .ok (.ret (.bl false)) st := fun hf => by
      rw [List.all_cons, hf, Bool.false_and]
      rfl
    have hs := s_sort (fu := fu) (k := k) (st := st) g.1.plain
    by_cases h3 : sortN x = 3
    · cases x <;> first | (exact absurd (show (0 : Int) = 3 from h3) (by decide)) | (exact absurd (show (1 : Int) = 3 from h3) (by decide)) | (exact absurd (show (2 : Int) = 3 from h3) (by decide)) | (exact absurd (show (4 : Int) = 3 from h3) (by decide)) | (exact absurd (show (5 : Int) = 3 from h3) (by decide)) | (exact absurd (show (6 : Int) = 3 from h3) (by decide)) | skip
      rename_i z
      simp only [sortN] at hs
      have hzl : z.length ≤ 1000000 := by
        have g' : z.length ≤ 1000 ∧ z.cps.all (· < 0x110000) = true := by cases n <;> exact g.1
        omega
      have hlen := len_ok (st := st) hzl
      have ez : z.length = z.cps.toList.length := by simp [Str.length]
      have ez0 : z.length = z.cps.toList.length := by simp [Str.length]
      have hname : isNameN (.str z) = isNameL z.cps.toList := rfl
      cases hc : z.cps.toList with
      | nil =>
        rw [hc] at ez hname
        have e0 : z.length = 0 := ez
        have hn : isNameN (.str z) = false := hname
        rw [no (by rw [hn]; rfl)]
        simp [hs, cmp_ne, hlen, e0]
      | cons c cs =>
        rw [hc] at ez
        have e1 : (1 : Int) ≤ z.length := by rw [ez, List.length_cons]; omega
        by_cases h12 : z.length ≤ 12
        · have e2 : (z.length : Int) ≤ 12 := by omega
          have hix : opIx st (.str z) (.int 0) = some (chD c) := by
            rw [ix_str, if_pos (by omega), atI_nat (by decide), hc]
            rfl
          have hi : opIn st (chD c) (.str "abcdefghijklmnopqrstuvwxyz") = some (decide (c ∈ letters.cps.toList)) := in_str_one
          by_cases hcl : c ∈ letters.cps.toList
          · rw [decide_eq_true hcl] at hi
            have hcomp : ∀ A B C D E F : Sl, compL (compB (Phi tab fu (k + 1)) [5] (.var 5) (.var 5) (.cons (.cmp .NotIn (.var 5) (.str "abcdefghijklmnopqrstuvwxyz0123456789")) .nil) [A, B, C, D, E, F]) (z.cps.toList.map chD) st = .ok (z.cps.toList.filterMap fun c => if alnum c = true then none else some (chD c)) st := fun A B C D E F => by
              refine compL_map fun c _ => ?_
              have hb := in_both (st := st) (c := c)
              simp only [both] at hb
              cases ha : alnum c <;> rw [ha] at hb <;> simp [compB, cmp_notin, hb]
            have hE := odd_nil z.cps.toList
            have hll := List.length_filterMap_le (fun c => if alnum c = true then none else some (chD c)) z.cps.toList
            have hgd := gd_chars (es := z.cps.toList.filterMap fun c => if alnum c = true then none else some (chD c)) g.1 (fun d hd => by
              obtain ⟨c, hc, e⟩ := List.mem_filterMap.mp hd
              split at e
              · cases e
              · cases e; exact ⟨c, hc, rfl⟩) (by omega)
            have hq := eq_nil hgd
            have hsz : (z.cps.toList.filterMap fun c => if alnum c = true then none else some (chD c)).length ≤ 16777216 := by omega
            have hn2 : isNameN (.str z) = z.cps.toList.all alnum := by
              rw [hname, hc]
              show (decide ((c :: cs).length ≤ 12) && (decide (c ∈ letters.cps.toList) && (c :: cs).all alnum)) = _
              rw [← ez, decide_eq_true h12, decide_eq_true hcl]
              rfl
            generalize (z.cps.toList.filterMap fun c => if alnum c = true then none else some (chD c)) = L at *
            cases ha : z.cps.toList.all alnum with
            | false =>
              rw [ha] at hE hn2
              rw [no (by rw [hn2]; rfl)]
              simp [hs, cmp_ne, hlen, e1, e2, hix, cmp_notin, hi, hcomp, hsz, hq, hE]
            | true =>
              rw [ha] at hE hn2
              have hs2 := s_sort (fu := fu) (k := k) (st := st) g.2.plain
              by_cases h2 : sortN y = 2
              · cases y <;> first | (exact absurd (show (0 : Int) = 2 from h2) (by decide)) | (exact absurd (show (1 : Int) = 2 from h2) (by decide)) | (exact absurd (show (3 : Int) = 2 from h2) (by decide)) | (exact absurd (show (4 : Int) = 2 from h2) (by decide)) | (exact absurd (show (5 : Int) = 2 from h2) (by decide)) | (exact absurd (show (6 : Int) = 2 from h2) (by decide)) | skip
                rename_i i
                simp only [sortN] at hs2
                have hw : isWholeN (.int i) 1 12 = (decide (1 ≤ i) && decide (i ≤ 12)) := rfl
                by_cases k1 : 1 ≤ i
                · by_cases k2 : i ≤ 12
                  · have : (isNameN (.str z) && isWholeN (.int i) 1 12) = true := by rw [hn2, hw, decide_eq_true k1, decide_eq_true k2]; rfl
                    rw [List.all_cons, this, Bool.true_and, ← e]
                    simp [hs, cmp_ne, hlen, e1, e2, hix, cmp_notin, hi, hcomp, hsz, hq, hE, hs2, k1, k2]
                  · rw [no (by rw [hn2, hw, decide_eq_true k1, decide_eq_false k2]; rfl)]
                    simp [hs, cmp_ne, hlen, e1, e2, hix, cmp_notin, hi, hcomp, hsz, hq, hE, hs2, k1, k2]
                · rw [no (by rw [hn2, hw, decide_eq_false k1]; rfl)]
                  simp [hs, cmp_ne, hlen, e1, e2, hix, cmp_notin, hi, hcomp, hsz, hq, hE, hs2, k1]
              · have hw : isWholeN y 1 12 = false := by
                  cases y <;> first | rfl | (exact absurd rfl h2)
                rw [no (by rw [hw, Bool.and_false])]
                simp [hs, cmp_ne, hlen, e1, e2, hix, cmp_notin, hi, hcomp, hsz, hq, hE, hs2, h2]
          · rw [decide_eq_false hcl] at hi
            have hn : isNameN (.str z) = false := by
              rw [hname, hc]
              show (decide ((c :: cs).length ≤ 12) && (decide (c ∈ letters.cps.toList) && (c :: cs).all alnum)) = _
              rw [decide_eq_false hcl, Bool.false_and, Bool.and_false]
            rw [no (by rw [hn]; rfl)]
            simp [hs, cmp_ne, hlen, e1, e2, hix, cmp_notin, hi]
        · have e2 : ¬ (z.length : Int) ≤ 12 := by omega
          have hn : isNameN (.str z) = false := by
            rw [hname, hc]
            show (decide ((c :: cs).length ≤ 12) && (decide (c ∈ letters.cps.toList) && (c :: cs).all alnum)) = _
            rw [← ez, decide_eq_false h12]
            rfl
          rw [no (by rw [hn]; rfl)]
          simp [hs, cmp_ne, hlen, e1, e2]
    · have hn : isNameN x = false := by
        cases x <;> first | rfl | (exact absurd rfl h3)
      rw [no (by rw [hn]; rfl)]
      simp [hs, cmp_ne, h3]
end
end K80
end
-- M16
section
set_option maxRecDepth 100000
set_option maxHeartbeats 4000000
set_option linter.all false
set_option Elab.async false
namespace K80
open PySem Fw
theorem two_nil : ∀ ds : List Dat, (ds.filterMap fun d => if isTupN d 2 2 = true then none else some d).isEmpty = ds.all (fun d => isTupN d 2 2)
  | [] => rfl
  | d :: ds => by
    rw [List.filterMap_cons, List.all_cons]
    cases h : isTupN d 2 2 with
    | true => simpa using two_nil ds
    | false => simp
section
variable {fu k : Nat} {st : Store}
theorem s_lare_fields {v : Dat} {n : Nat} (hn : n ≤ 40) (g : gd (n + 2) v) : Phi tab fu (k + 2) 37 [v] st = .ok (.bl (fieldsN v)) st := by
  rw [phi_ap (fn := f__law_are_fields) rfl rfl]
  by_cases hv : ∃ ds, v = .tup ds
  · obtain ⟨ds, rfl⟩ := hv
    by_cases hl : (1 : Int) ≤ ds.length ∧ (ds.length : Int) ≤ 8
    · have ef : fieldsN (.tup ds) = (ds.all (fun d => isTupN d 2 2) && (ds.all (fun d => isNameN (fst2 d) && isWholeN (snd2 d) 1 12) && risingN (strsN (ds.map fst2)))) := by
        show (decide (1 ≤ ds.length) && decide (ds.length ≤ 8) && _) = _
        rw [decide_eq_true (by omega), decide_eq_true (by omega)]
        rfl
      rw [ef]
      have hc : ∀ B C D F : Sl, compL (compB (Phi tab fu (k + 1)) [4] (.var 4) (.var 4) (.cons (.bool .Or (.cons (.not_ (.isi (.var 4) "tuple")) (.cons (.cmp .NotEq (.bi .len (.cons (.var 4) .nil)) (.int 2)) .nil))) .nil) [.v (.tup ds), B, C, D, .un, F]) ds st = .ok (ds.filterMap fun d => if isTupN d 2 2 = true then none else some d) st := fun B C D F => by
        refine compL_id fun d hd => ?_
        by_cases hdt : ∃ es, d = .tup es
        · obtain ⟨es, rfl⟩ := hdt
          have e1 : isTupN (.tup es) 2 2 = decide (es.length = 2) := by
            show (decide ((2 : Int) ≤ es.length) && decide ((es.length : Int) ≤ 2)) = _
            by_cases q : es.length = 2
            · simp [q]
            · by_cases q2 : (2 : Int) ≤ es.length
              · rw [decide_eq_true q2, show decide ((es.length : Int) ≤ 2) = false from decide_eq_false (by omega), decide_eq_false q]; rfl
              · rw [decide_eq_false q2, decide_eq_false q]; rfl
          have e2 : ((es.length : Int) == 2) = decide (es.length = 2) := by
            by_cases q : es.length = 2
            · simp [q]
            · have : ¬ (es.length : Int) = 2 := by omega
              simp [q, this]
          rw [e1]
          by_cases q : es.length = 2
          · simp [compB, cmp_ne, q]
          · have q' : ¬ (es.length : Int) = 2 := by omega
            simp [compB, cmp_ne, q, q']
        · have e1 : isTupN d 2 2 = false := by
            cases d <;> first | rfl | (exact absurd ⟨_, rfl⟩ hdt)
          rw [e1]
          have gg := g.tup d hd
          cases d <;> first | (exact gg.elim) | (exact absurd ⟨_, rfl⟩ hdt) | simp [compB]
      have hE := two_nil ds
      have hll := List.length_filterMap_le (fun d => if isTupN d 2 2 = true then none else some d) ds
      have hgd : gd (n + 2) (.lst (ds.filterMap fun d => if isTupN d 2 2 = true then none else some d)) := gd_filter g (fun x hx => by
        obtain ⟨y, hy, e⟩ := List.mem_filterMap.mp hx
        split at e
        · cases e
        · cases e; exact hy) hll
      have hq := eq_nil hgd (by omega)
      generalize (ds.filterMap fun d => if isTupN d 2 2 = true then none else some d) = L at *
      have hs : L.length ≤ 16777216 := by omega
      cases hAA : ds.all (fun d => isTupN d 2 2) with
      | false =>
        rw [hAA] at hE
        simp [f__law_are_fields, b__law_are_fields, hl, hc, hs, cmp_ne, hq, hE]
      | true =>
        rw [hAA] at hE
        have two : ∀ d ∈ ds, d = .tup [fst2 d, snd2 d] := fun d hd => two_of (List.all_eq_true.mp hAA d hd)
        have eds : ds = (ds.map fun d => (fst2 d, snd2 d)).map fun p => Dat.tup [p.1, p.2] := by
          rw [List.map_map]
          conv => lhs; rw [← List.map_id ds]
          exact List.map_congr_left fun d hd => two d hd
        obtain ⟨t2, t3, e⟩ := pair_loop (fu := fu) (k := k) (st := st) (A := .v (.tup ds)) (B := .un) (n := n) (ds.map fun d => (fst2 d, snd2 d)) .un .un .un .un (fun p hp => by
          obtain ⟨d, hd, rfl⟩ := List.mem_map.mp hp
          have gg := g.tup d hd
          have e2 := two d hd
          rw [e2] at gg
          exact ⟨gg.tup _ List.mem_cons_self, gg.tup _ (List.mem_cons_of_mem _ List.mem_cons_self)⟩)
        rw [← eds] at e
        have eall : ((ds.map fun d => (fst2 d, snd2 d)).all fun p => isNameN p.1 && isWholeN p.2 1 12) = ds.all (fun d => isNameN (fst2 d) && isWholeN (snd2 d) 1 12) := by rw [List.all_map]; rfl
        rw [eall] at e
        cases hBB : ds.all (fun d => isNameN (fst2 d) && isWholeN (snd2 d) 1 12) with
        | false =>
          rw [hBB] at e
          simp [f__law_are_fields, b__law_are_fields, hl, hc, hs, cmp_ne, hq, hE]
          rw [e]
          simp
        | true =>
          rw [hBB] at e
          have hstr : ds.map fst2 = sD (strsN (ds.map fst2)) := names_strs fun d hd => (Bool.and_eq_true_iff.mp (List.all_eq_true.mp hBB d hd)).1
          have hc2 : ∀ B C D F : Sl, compL (compB (Phi tab fu (k + 1)) [4] (.ix (.var 4) (.int 0)) (.var 4) .nil [.v (.tup ds), B, C, D, .un, F]) ds st = .ok (ds.map fst2) st := fun B C D F => by
            refine compL_ids fun d hd => ?_
            have e2 := two d hd
            generalize fst2 d = x at *
            generalize snd2 d = y at *
            subst e2
            simp [compB]
          have ggs : gd (n + 1) (.lst (ds.map fst2)) := ⟨by simp; omega, fun x hx => by
            obtain ⟨d, hd, rfl⟩ := List.mem_map.mp hx
            have gg := g.tup d hd
            rw [two d hd] at gg
            exact gg.tup _ List.mem_cons_self⟩
          have hzl : (ds.map fst2).length ≤ 8 := by simp; omega
          generalize strsN (ds.map fst2) = zs at *
          rw [hstr] at hc2 ggs hzl
          have h64 : zs.length < 64 := by simp [sD] at hzl; omega
          have hss := (sset_strs (st := st) h64).2
          have ggt : gd (n + 1) (.tup (sD zs)) := ⟨ggs.1, ggs.2⟩
          have he := eq_strs ggs (gd_sD ggt (fun z => sset_mem) (sset_len zs)) (by omega) (by omega)
          rw [rising_sorted] at he
          have hs3 : (sD zs).length ≤ 16777216 := by omega
          simp [f__law_are_fields, b__law_are_fields, hl, hc, hs, cmp_ne, hq, hE]
          rw [e]
          simp [hc2, sized_ok hs3, hss, cmp_eq, he]
    · have ef : fieldsN (.tup ds) = false := by
        show (decide (1 ≤ ds.length) && decide (ds.length ≤ 8) && _) = _
        by_cases h1 : 1 ≤ ds.length
        · rw [decide_eq_true h1, show decide (ds.length ≤ 8) = false from decide_eq_false (by omega)]; rfl
        · rw [decide_eq_false h1]; rfl
      rw [ef]
      by_cases h1 : (1 : Int) ≤ ds.length
      · have h3 : ¬ (ds.length : Int) ≤ 8 := by omega
        simp [f__law_are_fields, b__law_are_fields, h1, h3]
      · simp [f__law_are_fields, b__law_are_fields, h1]
  · have ef : fieldsN v = false := by
      cases v <;> first | rfl | (exact absurd ⟨_, rfl⟩ hv)
    rw [ef]
    cases v <;> first | (exact g.elim) | (exact absurd ⟨_, rfl⟩ hv) | simp [f__law_are_fields, b__law_are_fields]
end
end K80
end
-- M17
section
set_option maxRecDepth 100000
set_option maxHeartbeats 4000000
set_option linter.all false
set_option Elab.async false
namespace K80
open PySem Fw
def cup (a b : Int) (rest : Store) : Store := .lst [.int a, .int b] :: rest
section
variable {fu k : Nat} {st : Store} {a b : Int} {rest : Store}
theorem ix_cup0 : opIx (cup a b rest) (.ref 0) (.int 0) = some (.int a) := rfl
theorem ix_cup1 : opIx (cup a b rest) (.ref 0) (.int 1) = some (.int b) := rfl
theorem set_cup0 {x : Int} {ρ : Fw.Env} : setD (.v (.ref 0) :: ρ) 0 (.int 0) (.int x) (cup a b rest) = .ok (.nx (.v (.ref 0) :: ρ)) (cup x b rest) := rfl
theorem set_cup1 {x : Int} {ρ : Fw.Env} : setD (.v (.ref 0) :: ρ) 0 (.int 1) (.int x) (cup a b rest) = .ok (.nx (.v (.ref 0) :: ρ)) (cup a x rest) := rfl
theorem mod_pos {i m : Int} (h : 0 < m) : opBin .Mod (.int i) (.int m) = some (.int (i.fmod m)) ∧ 0 ≤ i.fmod m ∧ i.fmod m < m := by
  refine ⟨by rw [bin_mod_int, if_pos (by omega)], Int.fmod_nonneg_of_pos _ h, Int.fmod_lt_of_pos _ h⟩
theorem div_ok {i m : Int} (h : 0 < m) (h2 : m < 1073741824) : opBin .FloorDiv (.int i) (.int m) = some (.int (i.fdiv m)) := by
  rw [bin_div_int, if_pos ⟨by omega, by omega⟩]
theorem s_roll {m : Int} (h : 0 < m) (h2 : m < 1073741824) : ∃ a' b' r, 0 ≤ r ∧ r < m ∧ Phi tab fu (k + 1) 28 [.ref 0, .int m] (cup a b rest) = .ok (.int r) (cup a' b' rest) := by
  by_cases ha : 0 < a
  · obtain ⟨e1, e2, e3⟩ := mod_pos (i := a) h
    have e4 := div_ok (i := a) h h2
    refine ⟨a.fdiv m, b, a.fmod m, e2, e3, ?_⟩
    rw [phi_ap (fn := f__law_roll) rfl rfl]
    simp [f__law_roll, b__law_roll, ix_cup0, ha, e1, e4, set_cup0]
  · have m1 : opBin .Mult (.int b) (.int 31051) = some (.int (b * 31051)) := mul_int (by decide)
    obtain ⟨p1, p2, p3⟩ := mod_pos (i := b * 31051 + 7993) (m := 2147483543) (by decide)
    generalize (b * 31051 + 7993).fmod 2147483543 = x at *
    have m2 : opBin .Mult (.int x) (.int (x + 229)) = some (.int (x * (x + 229))) := mul_int (by omega)
    obtain ⟨q1, q2, q3⟩ := mod_pos (i := x * (x + 229)) (m := 2147483587) (by decide)
    generalize (x * (x + 229)).fmod 2147483587 = y at *
    have d1 := div_ok (i := y) (m := 821) (by decide) (by decide)
    generalize y.fdiv 821 = z at *
    obtain ⟨r1, r2, r3⟩ := mod_pos (i := z) h
    refine ⟨a, x, z.fmod m, r2, r3, ?_⟩
    rw [phi_ap (fn := f__law_roll) rfl rfl]
    simp [f__law_roll, b__law_roll, ix_cup0, ix_cup1, ha, m1, p1, set_cup1, m2, q1, d1, r1]
theorem s_some {ds : List Dat} (h : ds ≠ []) (hl : ds.length ≤ 100000) : ∃ a' b' d, d ∈ ds ∧ (Phi tab fu (k + 2) 29 [.ref 0, .lst ds] (cup a b rest) = .ok d (cup a' b' rest)) := by
  have h0 : 0 < ds.length := List.length_pos_iff.mpr h
  obtain ⟨a', b', r, r1, r2, e⟩ := s_roll (fu := fu) (k := k) (a := a) (b := b) (rest := rest) (m := ds.length) (by omega) (by omega)
  have hr : r.toNat < ds.length := by omega
  refine ⟨a', b', ds[r.toNat], List.getElem_mem hr, ?_⟩
  rw [phi_ap (fn := f__law_some) rfl rfl]
  have ea : L2.atI ds r = some ds[r.toNat] := by rw [atI_nat r1, List.getElem?_eq_getElem hr]
  simp [f__law_some, b__law_some, e, ea]
theorem s_someS {z : Str} (h : 0 < z.length) (hl : z.length ≤ 100000) : ∃ a' b' c, c ∈ z.cps.toList ∧ (Phi tab fu (k + 2) 29 [.ref 0, .str z] (cup a b rest) = .ok (chD c) (cup a' b' rest)) := by
  obtain ⟨a', b', r, r1, r2, e⟩ := s_roll (fu := fu) (k := k) (a := a) (b := b) (rest := rest) (m := z.length) (by omega) (by omega)
  have ez : z.length = z.cps.toList.length := by simp [Str.length]
  have hr : r.toNat < z.cps.toList.length := by omega
  refine ⟨a', b', z.cps.toList[r.toNat], List.getElem_mem hr, ?_⟩
  rw [phi_ap (fn := f__law_some) rfl rfl]
  have hlen := len_ok (st := cup a b rest) (x := z) (by omega)
  have ea : opIx (cup a' b' rest) (.str z) (.int r) = some (chD z.cps.toList[r.toNat]) := by
    rw [ix_str, if_pos (by omega), atI_nat r1, List.getElem?_eq_getElem hr]
    rfl
  simp [f__law_some, b__law_some, hlen, e, ea]
end
end K80
end
-- M18
section
set_option maxRecDepth 100000
set_option maxHeartbeats 4000000
set_option linter.all false
set_option Elab.async false
namespace K80
open PySem Fw
/-- the start of a name, at most so long -/
def preN (m : Nat) (z : Str) : Prop := isNameL z.cps.toList = true ∧ z.length ≤ m
theorem name_snoc {z : Str} {c m : Nat} (h : preN m z) (hm : m + 1 ≤ 12) (hc : alnum c = true) : preN (m + 1) (z ++ ⟨#[c]⟩) := by
  have el : (z ++ (⟨#[c]⟩ : Str)).cps.toList = z.cps.toList ++ [c] := by
    show (z.cps ++ #[c]).toList = _
    simp
  have ez : z.length = z.cps.toList.length := by simp [Str.length]
  have e2 : (z ++ (⟨#[c]⟩ : Str)).length = z.length + 1 := by
    show (z.cps ++ #[c]).size = z.cps.size + 1
    simp
  refine ⟨?_, by have := h.2; omega⟩
  rw [el]
  have h1 := h.1
  have h2 := h.2
  cases hz : z.cps.toList with
  | nil => rw [hz] at h1; cases h1
  | cons d ds =>
    rw [hz] at h1 ez
    have h1' : (decide ((d :: ds).length ≤ 12) && (decide (d ∈ letters.cps.toList) && (d :: ds).all alnum)) = true := h1
    simp only [Bool.and_eq_true] at h1'
    show (decide ((d :: (ds ++ [c])).length ≤ 12) && (decide (d ∈ letters.cps.toList) && (d :: (ds ++ [c])).all alnum)) = true
    rw [h1'.2.1, decide_eq_true (by simp at ez ⊢; omega)]
    have h3 := h1'.2.2
    rw [List.all_cons, Bool.and_eq_true] at h3
    simp [h3.1, hc]
    exact List.all_eq_true.mp h3.2
theorem name_one {c : Nat} (h : c ∈ letters.cps.toList) : preN 1 ⟨#[c]⟩ := by
  refine ⟨?_, Nat.le_refl _⟩
  show (decide (([c] : List Nat).length ≤ 12) && (decide (c ∈ letters.cps.toList) && [c].all alnum)) = true
  rw [decide_eq_true h]
  have : alnum c = true := by unfold alnum; rw [decide_eq_true h]; rfl
  simp [this]
def names70 : List Str := (List.range 70).map fun (i : Nat) => ("n" : Str) ++ Str.ofString (toString (Int.ofNat i))
theorem names70_ok : names70.Nodup ∧ (∀ z ∈ names70, isNameL z.cps.toList = true) ∧ names70.length = 70 := by decide +kernel
theorem pigeon : ∀ (l t : List Str), l.Nodup → (∀ x ∈ l, x ∈ t) → l.length ≤ t.length
  | [], _, _, _ => Nat.zero_le _
  | x :: l, t, hn, h => by
    obtain ⟨h1, h2⟩ := List.nodup_cons.mp hn
    have hx := h x List.mem_cons_self
    have := pigeon l (t.erase x) h2 fun y hy => (List.mem_erase_of_ne (fun e => h1 (by rw [← e]; exact hy))).mpr (h y (List.mem_cons_of_mem _ hy))
    rw [List.length_erase_of_mem hx] at this
    have := List.length_pos_of_mem hx
    simp
    omega
theorem left_over {tk : List Str} (h : tk.length < 70) : ∃ z r, (names70.filterMap fun z => if z ∈ tk then none else some (Dat.str z)) = .str z :: r ∧ z ∈ names70 ∧ z ∉ tk := by
  cases hl : (names70.filterMap fun z => if z ∈ tk then none else some (Dat.str z)) with
  | nil =>
    exfalso
    have := pigeon names70 tk names70_ok.1 fun x hx => by
      by_cases q : x ∈ tk
      · exact q
      · have : Dat.str x ∈ (names70.filterMap fun z => if z ∈ tk then none else some (Dat.str z)) := List.mem_filterMap.mpr ⟨x, hx, by rw [if_neg q]⟩
        rw [hl] at this
        cases this
    rw [names70_ok.2.2] at this
    omega
  | cons d r =>
    have hm : d ∈ (names70.filterMap fun z => if z ∈ tk then none else some (Dat.str z)) := by rw [hl]; exact List.mem_cons_self
    obtain ⟨z, hz, e⟩ := List.mem_filterMap.mp hm
    split at e
    · cases e
    · cases e; exact ⟨z, r, rfl, hz, by assumption⟩
section
variable {fu k : Nat} {st : Store} {a b : Int} {rest : Store}
theorem grow_loop {T L D : Sl} {s2 s7 : Sl} : ∀ (l : List Dat) (a b : Int) (z : Str) (m : Nat) (s6 : Sl), preN m z → m + l.length ≤ 12 →
    ∃ a' b' z' t6, preN 12 z' ∧ forL (fun ρ => exes (Phi tab fu (k + 2)) fu (.cons (.asg 5 (.bin .Add (.var 5) (.call 29 (.cons (.var 0) (.cons (.bin .Add (.var 3) (.var 4)) .nil))))) .nil) ρ) (bindT (.var 6)) l [.v (.ref 0), T, s2, .v (.str letters), .v (.str digits), .v (.str z), s6, s7] (cup a b rest) =
      .ok (.nx [.v (.ref 0), T, s2, .v (.str letters), .v (.str digits), .v (.str z'), t6, s7]) (cup a' b' rest)
  | [], a, b, z, m, s6, h, hl => ⟨a, b, z, s6, ⟨h.1, by have := h.2; simp at hl; omega⟩, rfl⟩
  | d :: l, a, b, z, m, s6, h, hl => by
    obtain ⟨a1, b1, c, hc, e1⟩ := s_someS (fu := fu) (k := k) (a := a) (b := b) (rest := rest) (z := both) (by decide +kernel) (by decide +kernel)
    have hal : alnum c = true := by
      rw [both_eq] at hc
      unfold alnum
      rcases List.mem_append.mp hc with q | q
      · rw [decide_eq_true q]; rfl
      · rw [decide_eq_true q, Bool.or_true]
    have hp := name_snoc h (by simp at hl; omega) hal
    obtain ⟨a', b', z', t6, hz, e2⟩ := grow_loop (T := T) (L := L) (D := D) (s2 := s2) (s7 := s7) l a1 b1 _ (m + 1) (.v d) hp (by simp at hl; omega)
    refine ⟨a', b', z', t6, hz, ?_⟩
    have ad : opBin .Add (.str letters) (.str digits) = some (.str both) := by
      rw [bin_add_str, szL, if_pos (by decide +kernel)]
      exact congrArg (fun s => some (Dat.str s)) (by decide +kernel)
    have hz := h.2
    have ad2 : opBin .Add (.str z) (chD c) = some (.str (z ++ ⟨#[c]⟩)) := by
      unfold chD
      rw [bin_add_str, szL, if_pos]
      show z.length + 1 ≤ 16777216
      simp at hl
      omega
    rw [← e2]
    simp [ad, e1, ad2]
end
end K80
end
-- M19
section
set_option maxRecDepth 100000
set_option maxHeartbeats 4000000
set_option linter.all false
set_option Elab.async false
namespace K80
open PySem Fw
theorem inner70 {fu k : Nat} {st : Store} {A B C D E F G H : Sl} : den (Phi tab fu k) (.comp [7] (.bin .Add (.str "n") (.bi .str (.cons (.var 7) .nil))) (.var 7) (.range1 (.int 70)) .nil) [A, B, C, D, E, F, G, H] st = .ok (.lst (sD names70)) st := by kernel_rfl
def sixD : List Dat := [.int 0, .int 0, .int 0, .int 1, .int 2, .int 11]
theorem six_in {d : Dat} (h : d ∈ sixD) : ∃ l, range1Of d = some l ∧ l.length ≤ 11 := by
  simp only [sixD, List.mem_cons, List.not_mem_nil, or_false] at h
  rcases h with rfl | rfl | rfl | rfl | rfl | rfl
  · exact ⟨_, rfl, by decide⟩
  · exact ⟨_, rfl, by decide⟩
  · exact ⟨_, rfl, by decide⟩
  · exact ⟨_, rfl, by decide⟩
  · exact ⟨_, rfl, by decide⟩
  · exact ⟨_, rfl, by decide⟩
section
variable {fu k : Nat} {rest : Store}
theorem turn_loop {n : Nat} {tk : List Str} (hT : ∀ (a b : Int) (x : Str), opIn (cup a b rest) (.str x) (.ref n) = some (decide (x ∈ tk))) {s7 : Sl} : ∀ (l : List Dat) (a b : Int) (s2 s5 s6 : Sl),
    ∃ a' b', (∃ z, isNameL z.cps.toList = true ∧ z ∉ tk ∧ forL (fun ρ => exes (Phi tab fu (k + 2)) fu (.cons (.asg 5 (.call 29 (.cons (.var 0) (.cons (.var 3) .nil)))) (.cons (.for_ (.var 6) (.range1 (.call 29 (.cons (.var 0) (.cons (.lst (.cons (.int 0) (.cons (.int 0) (.cons (.int 0) (.cons (.int 1) (.cons (.int 2) (.cons (.int 11) .nil))))))) .nil)))) (.cons (.asg 5 (.bin .Add (.var 5) (.call 29 (.cons (.var 0) (.cons (.bin .Add (.var 3) (.var 4)) .nil))))) .nil)) (.cons (.ife (.cmp .NotIn (.var 5) (.var 1)) (.cons (.ret (.var 5)) .nil) .nil) .nil))) ρ) (bindT (.var 2)) l [.v (.ref 0), .v (.ref n), s2, .v (.str letters), .v (.str digits), s5, s6, s7] (cup a b rest) = .ok (.ret (.str z)) (cup a' b' rest)) ∨
      (∃ t2 t5 t6, forL (fun ρ => exes (Phi tab fu (k + 2)) fu (.cons (.asg 5 (.call 29 (.cons (.var 0) (.cons (.var 3) .nil)))) (.cons (.for_ (.var 6) (.range1 (.call 29 (.cons (.var 0) (.cons (.lst (.cons (.int 0) (.cons (.int 0) (.cons (.int 0) (.cons (.int 1) (.cons (.int 2) (.cons (.int 11) .nil))))))) .nil)))) (.cons (.asg 5 (.bin .Add (.var 5) (.call 29 (.cons (.var 0) (.cons (.bin .Add (.var 3) (.var 4)) .nil))))) .nil)) (.cons (.ife (.cmp .NotIn (.var 5) (.var 1)) (.cons (.ret (.var 5)) .nil) .nil) .nil))) ρ) (bindT (.var 2)) l [.v (.ref 0), .v (.ref n), s2, .v (.str letters), .v (.str digits), s5, s6, s7] (cup a b rest) = .ok (.nx [.v (.ref 0), .v (.ref n), t2, .v (.str letters), .v (.str digits), t5, t6, s7]) (cup a' b' rest))
  | [], a, b, s2, s5, s6 => ⟨a, b, .inr ⟨s2, s5, s6, rfl⟩⟩
  | d :: l, a, b, s2, s5, s6 => by
    obtain ⟨a1, b1, c, hc, e1⟩ := s_someS (fu := fu) (k := k) (a := a) (b := b) (rest := rest) (z := letters) (by decide +kernel) (by decide +kernel)
    obtain ⟨a2, b2, d6, hd6, e2⟩ := s_some (fu := fu) (k := k) (a := a1) (b := b1) (rest := rest) (ds := sixD) (by simp [sixD]) (by decide)
    obtain ⟨l6, h6, hl6⟩ := six_in hd6
    obtain ⟨a3, b3, z, t6, hz, e3⟩ := grow_loop (fu := fu) (k := k) (rest := rest) (T := .v (.ref n)) (L := .un) (D := .un) (s2 := .v d) (s7 := s7) l6 a2 b2 _ 1 s6 (name_one hc) (by omega)
    simp only [sixD] at e2
    by_cases hin : z ∈ tk
    · obtain ⟨a', b', r⟩ := turn_loop hT (s7 := s7) l a3 b3 (.v d) (.v (.str z)) t6
      refine ⟨a', b', ?_⟩
      have step : ∀ {X : Res Fl}, forL (fun ρ => exes (Phi tab fu (k + 2)) fu (.cons (.asg 5 (.call 29 (.cons (.var 0) (.cons (.var 3) .nil)))) (.cons (.for_ (.var 6) (.range1 (.call 29 (.cons (.var 0) (.cons (.lst (.cons (.int 0) (.cons (.int 0) (.cons (.int 0) (.cons (.int 1) (.cons (.int 2) (.cons (.int 11) .nil))))))) .nil)))) (.cons (.asg 5 (.bin .Add (.var 5) (.call 29 (.cons (.var 0) (.cons (.bin .Add (.var 3) (.var 4)) .nil))))) .nil)) (.cons (.ife (.cmp .NotIn (.var 5) (.var 1)) (.cons (.ret (.var 5)) .nil) .nil) .nil))) ρ) (bindT (.var 2)) l [.v (.ref 0), .v (.ref n), .v d, .v (.str letters), .v (.str digits), .v (.str z), t6, s7] (cup a3 b3 rest) = X →
          forL (fun ρ => exes (Phi tab fu (k + 2)) fu (.cons (.asg 5 (.call 29 (.cons (.var 0) (.cons (.var 3) .nil)))) (.cons (.for_ (.var 6) (.range1 (.call 29 (.cons (.var 0) (.cons (.lst (.cons (.int 0) (.cons (.int 0) (.cons (.int 0) (.cons (.int 1) (.cons (.int 2) (.cons (.int 11) .nil))))))) .nil)))) (.cons (.asg 5 (.bin .Add (.var 5) (.call 29 (.cons (.var 0) (.cons (.bin .Add (.var 3) (.var 4)) .nil))))) .nil)) (.cons (.ife (.cmp .NotIn (.var 5) (.var 1)) (.cons (.ret (.var 5)) .nil) .nil) .nil))) ρ) (bindT (.var 2)) (d :: l) [.v (.ref 0), .v (.ref n), s2, .v (.str letters), .v (.str digits), s5, s6, s7] (cup a b rest) = X := fun {X} hX => by
        rw [← hX]
        simp [e1, e2, h6]
        unfold chD
        rw [e3]
        simp [cmp_notin, hT, hin]
      rcases r with ⟨z', q1, q2, q3⟩ | ⟨t2, t5, t6', q⟩
      · exact .inl ⟨z', q1, q2, step q3⟩
      · exact .inr ⟨t2, t5, t6', step q⟩
    · refine ⟨a3, b3, .inl ⟨z, hz.1, hin, ?_⟩⟩
      simp [e1, e2, h6]
      unfold chD
      rw [e3]
      simp [cmp_notin, hT, hin]
theorem s_name {n : Nat} {tk : List Str} (hT : ∀ (a b : Int) (x : Str), opIn (cup a b rest) (.str x) (.ref n) = some (decide (x ∈ tk))) (htk : tk.length < 70) (a b : Int) :
    ∃ a' b' z, isNameL z.cps.toList = true ∧ z ∉ tk ∧ Phi tab fu (k + 3) 32 [.ref 0, .ref n] (cup a b rest) = .ok (.str z) (cup a' b' rest) := by
  obtain ⟨l3, e3⟩ : ∃ l, range1Of (.int 3) = some l := ⟨_, rfl⟩
  obtain ⟨a', b', r⟩ := turn_loop (fu := fu) (k := k) hT (s7 := .un) l3 a b .un .un .un
  simp only [letters, digits] at r
  rcases r with ⟨z, q1, q2, q3⟩ | ⟨t2, t5, t6, q⟩
  · refine ⟨a', b', z, q1, q2, ?_⟩
    rw [phi_ap (fn := f__law_name) rfl rfl]
    simp [f__law_name, b__law_name, e3]
    rw [q3]
    simp
  · obtain ⟨z, r, el, hz, hn⟩ := left_over htk
    refine ⟨a', b', z, names70_ok.2.1 z hz, hn, ?_⟩
    have ho : ∀ A B C : Sl, den (Phi tab fu (k + 2)) (.comp [5] (.var 5) (.var 5) (.seq (.comp [7] (.bin .Add (.str "n") (.bi .str (.cons (.var 7) .nil))) (.var 7) (.range1 (.int 70)) .nil)) (.cons (.cmp .NotIn (.var 5) (.var 1)) .nil)) [.v (.ref 0), .v (.ref n), t2, A, B, t5, t6, C] (cup a' b' rest) = .ok (.lst (.str z :: r)) (cup a' b' rest) := fun A B C => by
      rw [d_comp, ri_seq, sd_comp, inner70, ← el]
      have hc : compL (compB (Phi tab fu (k + 2)) [5] (.var 5) (.var 5) (.cons (.cmp .NotIn (.var 5) (.var 1)) .nil) [.v (.ref 0), .v (.ref n), t2, A, B, t5, t6, C]) (sD names70) (cup a' b' rest) = .ok (names70.filterMap fun z => if z ∈ tk then none else some (Dat.str z)) (cup a' b' rest) := by
        unfold sD
        refine compL_map fun x _ => ?_
        by_cases hx : x ∈ tk <;> simp [compB, cmp_notin, hT, hx]
      have hl : (names70.filterMap fun z => if z ∈ tk then none else some (Dat.str z)).length ≤ 16777216 := by
        have h1 := List.length_filterMap_le (fun z => if z ∈ tk then none else some (Dat.str z)) names70
        rw [names70_ok.2.2] at h1
        omega
      generalize (names70.filterMap fun z => if z ∈ tk then none else some (Dat.str z)) = L at *
      simp [hc, sized_ok hl]
    rw [phi_ap (fn := f__law_name) rfl rfl]
    simp [-d_comp, f__law_name, b__law_name, e3]
    rw [q]
    simp [-d_comp, ho]
end
end K80
end
-- M20
section
set_option maxRecDepth 100000
set_option maxHeartbeats 4000000
set_option linter.all false
set_option Elab.async false
namespace K80
open PySem Fw
section
variable {fu k : Nat} {rest : Store}
theorem cell_at {a b : Int} {ds : List Dat} : (cup a b (rest ++ [.lst ds]))[rest.length + 1]? = some (.lst ds) := by
  show (Cell.lst [.int a, .int b] :: (rest ++ [.lst ds]))[rest.length + 1]? = _
  rw [List.getElem?_cons_succ, List.getElem?_append_right (Nat.le_refl _)]
  simp
theorem in_cell {a b : Int} {zs : List Str} {x : Str} : opIn (cup a b (rest ++ [.lst (sD zs)])) (.str x) (.ref (rest.length + 1)) = some (decide (x ∈ zs)) := by
  show inSeq _ (.str x) (.ref (rest.length + 1)) = _
  have e : seqOf (cup a b (rest ++ [.lst (sD zs)])) (.ref (rest.length + 1)) = some (sD zs) := by
    show (match (cup a b (rest ++ [.lst (sD zs)]))[rest.length + 1]? with
      | some (.lst ds) => some ds
      | none => none) = _
    rw [cell_at]
  have h := in_lst_strs (st := cup a b (rest ++ [.lst (sD zs)])) (x := x) (zs := zs)
  have h2 : inSeq (cup a b (rest ++ [.lst (sD zs)])) (.str x) (.lst (sD zs)) = some (decide (x ∈ zs)) := h
  unfold inSeq at h2 ⊢
  rw [e]
  exact h2
theorem app_cell {a b : Int} {ds : List Dat} {d : Dat} {ρ : Fw.Env} (h : ds.length < 16777216) : appCell (rest.length + 1) d ρ (cup a b (rest ++ [.lst ds])) = .ok (.nx ρ) (cup a b (rest ++ [.lst (ds ++ [d])])) := by
  unfold appCell
  rw [cell_at]
  show (if ds.length < sizeLine then _ else _) = _
  rw [szL, if_pos h]
  congr 1
  show (Cell.lst [.int a, .int b] :: (rest ++ [.lst ds])).set (rest.length + 1) _ = _
  rw [List.set_cons_succ]
  show _ :: _ = Cell.lst [.int a, .int b] :: (rest ++ [.lst (ds ++ [d])])
  congr 1
  rw [List.set_append_right _ _ (Nat.le_refl _)]
  simp
/-- names told so far -/
structure Told (zs : List Str) : Prop where
  nd : zs.Nodup
  name : ∀ z ∈ zs, isNameL z.cps.toList = true
theorem names_loop {M : Sl} : ∀ (l : List Dat) (zs : List Str) (a b : Int) (s3 : Sl), Told zs → zs.length + l.length ≤ 60 →
    ∃ a' b' zs' t3, Told zs' ∧ zs'.length = zs.length + l.length ∧ forL (fun ρ => exes (Phi tab fu (k + 3)) fu (.cons (.app 2 (.call 32 (.cons (.var 0) (.cons (.var 2) .nil)))) .nil) ρ) (bindT (.var 3)) l [.v (.ref 0), M, .v (.ref (rest.length + 1)), s3] (cup a b (rest ++ [.lst (sD zs)])) =
      .ok (.nx [.v (.ref 0), M, .v (.ref (rest.length + 1)), t3]) (cup a' b' (rest ++ [.lst (sD zs')]))
  | [], zs, a, b, s3, h, hl => ⟨a, b, zs, s3, h, by simp, rfl⟩
  | d :: l, zs, a, b, s3, h, hl => by
    obtain ⟨a1, b1, z, hz, hn, e1⟩ := s_name (fu := fu) (k := k) (rest := rest ++ [.lst (sD zs)]) (n := rest.length + 1) (tk := zs) (fun a b x => in_cell) (by simp at hl; omega) a b
    have h' : Told (zs ++ [z]) := ⟨by
      rw [List.nodup_append]
      refine ⟨h.nd, by simp, fun x hx y hy e => ?_⟩
      rw [List.mem_singleton] at hy
      subst hy
      subst e
      exact hn hx, fun y hy => by
      rcases List.mem_append.mp hy with q | q
      · exact h.name y q
      · rw [List.mem_singleton.mp q]; exact hz⟩
    obtain ⟨a', b', zs', t3, h1, h2, e2⟩ := names_loop (M := M) l (zs ++ [z]) a1 b1 (.v d) h' (by simp at hl ⊢; omega)
    refine ⟨a', b', zs', t3, h1, by simp at h2 ⊢; omega, ?_⟩
    rw [← e2]
    have ea := app_cell (rest := rest) (a := a1) (b := b1) (ds := sD zs) (d := .str z) (ρ := [.v (.ref 0), M, .v (.ref (rest.length + 1)), .v d]) (by simp [sD] at hl ⊢; omega)
    have es : sD zs ++ [.str z] = sD (zs ++ [z]) := by simp [sD]
    rw [es] at ea
    simp [e1, appSl, appV, ea]
theorem sort_rising {zs : List Str} (h : Told zs) : risingN (sortS zs) = true := by
  have nd : (sortS zs).Nodup := (sortS_perm _).nodup_iff.mpr h.nd
  exact (rising_pairs _).mpr (List.Pairwise.imp₂ (fun a b h1 h2 => leS_ltS h1 h2) (sortS_sorted _) nd)
theorem s_namesG {mi : Int} {l : List Dat} (el : range1Of (.int mi) = some l) (hl : l.length ≤ 60) (a b : Int) : ∃ a' b' zs rest', zs.length = l.length ∧ (∀ z ∈ zs, isNameL z.cps.toList = true) ∧ risingN zs = true ∧ Phi tab fu (k + 4) 33 [.ref 0, .int mi] (cup a b rest) = .ok (.lst (sD zs)) (cup a' b' rest') := by
  obtain ⟨a', b', zs, t3, h1, h2, e⟩ := names_loop (fu := fu) (k := k) (rest := rest) (M := .v (.int mi)) l [] a b .un ⟨List.nodup_nil, fun z hz => by cases hz⟩ (by simp; omega)
  refine ⟨a', b', sortS zs, rest ++ [.lst (sD zs)], by rw [(sortS_perm _).length_eq]; simp at h2; omega, fun z hz => h1.name z ((sortS_perm _).mem_iff.mp hz), sort_rising h1, ?_⟩
  rw [phi_ap (fn := f__law_names) rfl rfl]
  have ec : cup a b rest ++ [.lst []] = cup a b (rest ++ [.lst (sD [])]) := rfl
  have elen : (cup a b rest).length = rest.length + 1 := rfl
  have hz : zs.length < 64 := by simp at h2; omega
  have es : opBi (cup a' b' (rest ++ [.lst (sD zs)])) .sorted [.ref (rest.length + 1)] = some (.lst (sD (sortS zs))) := by
    have e1 : lstOf (cup a' b' (rest ++ [.lst (sD zs)])) (.ref (rest.length + 1)) = some (sD zs) := by
      show (match (cup a' b' (rest ++ [.lst (sD zs)]))[rest.length + 1]? with
        | some (.lst ds) => some ds
        | none => none) = _
      rw [cell_at]
    have e2 : strsOf (sD zs) = some zs := by
      have := strsOf_map zs id
      simpa [sD] using this
    show (match lstOf (cup a' b' (rest ++ [.lst (sD zs)])) (.ref (rest.length + 1)) with
      | some ds => match intsOf ds with
        | some ns => some (Dat.lst ((sortI ns).map Dat.int))
        | none => match strsOf ds with
          | some zs => if zs.length < 64 then some (Dat.lst ((sortS zs).map Dat.str)) else none
          | none => none
      | none => none) = _
    rw [e1]
    cases zs with
    | nil => rfl
    | cons z zs =>
      show (match intsOf (.str z :: sD zs) with
        | some ns => some (Dat.lst ((sortI ns).map Dat.int))
        | none => match strsOf (sD (z :: zs)) with
          | some zs => if zs.length < 64 then some (Dat.lst ((sortS zs).map Dat.str)) else none
          | none => none) = _
      rw [show intsOf (.str z :: sD zs) = none from rfl, e2]
      show (if (z :: zs).length < 64 then some (Dat.lst ((sortS (z :: zs)).map Dat.str)) else none) = _
      rw [if_pos hz]
      rfl
  simp [f__law_names, b__law_names, el, ec, elen]
  rw [e]
  simp [es]
theorem range_ok {i : Int} (h : 0 ≤ i) (h2 : i ≤ 1000000) : ∃ l, range1Of (.int i) = some l ∧ (l.length : Int) = i := ⟨rangeD 0 i.toNat, by
    show (if okR i then some (rangeD 0 i.toNat) else none) = _
    rw [if_pos (by unfold okR; exact decide_eq_true (by omega))], by simp [rangeD]; omega⟩
end
end K80
end
-- M21
section
set_option maxRecDepth 100000
set_option maxHeartbeats 4000000
set_option linter.all false
set_option Elab.async false
namespace K80
open PySem Fw
section
variable {fu k : Nat} {rest : Store}
theorem fields_loop {A : Sl} {dm : Int} (h1 : 0 < dm) (h2 : dm ≤ 1000) : ∀ (zs : List Str) (a b : Int), ∃ a' b' fs, fs.map (·.1) = zs ∧ (∀ p ∈ fs, 1 ≤ p.2 ∧ p.2 ≤ dm) ∧
    compL (compB (Phi tab fu (k + 1)) [3] (.tup (.cons (.var 3) (.cons (.bin .Add (.int 1) (.call 28 (.cons (.var 0) (.cons (.var 2) .nil)))) .nil))) (.var 3) .nil [.v (.ref 0), A, .v (.int dm), .un]) (sD zs) (cup a b rest) = .ok (fD fs) (cup a' b' rest)
  | [], a, b => ⟨a, b, [], rfl, (fun p hp => by cases hp), rfl⟩
  | z :: zs, a, b => by
    obtain ⟨a1, b1, r, r1, r2, e1⟩ := s_roll (fu := fu) (k := k) (a := a) (b := b) (rest := rest) (m := dm) h1 (by omega)
    obtain ⟨a', b', fs, q1, q2, q3⟩ := fields_loop (A := A) h1 h2 zs a1 b1
    refine ⟨a', b', (z, 1 + r) :: fs, by rw [List.map_cons, q1], fun p hp => ?_, ?_⟩
    · rcases List.mem_cons.mp hp with rfl | hp
      · exact ⟨show (1 : Int) ≤ 1 + r by omega, show 1 + r ≤ dm by omega⟩
      · exact q2 p hp
    · have step : compB (Phi tab fu (k + 1)) [3] (.tup (.cons (.var 3) (.cons (.bin .Add (.int 1) (.call 28 (.cons (.var 0) (.cons (.var 2) .nil)))) .nil))) (.var 3) .nil [.v (.ref 0), A, .v (.int dm), .un] (.str z) (cup a b rest) = .ok (some (.tup [.str z, .int (1 + r)])) (cup a1 b1 rest) := by
        simp [compB, e1]
      show compL _ (.str z :: sD zs) _ = _
      simp only [compL, mbind_ap, mpure_ap, step, q3, bd_ok]
      rfl
theorem s_fieldsG {mo dm : Int} (h1 : 0 < mo) (h2 : mo ≤ 8) (h3 : 0 < dm) (h4 : dm ≤ 12) (a b : Int) : ∃ a' b' fs rest', FOk fs ∧ Phi tab fu (k + 5) 34 [.ref 0, .int mo, .int dm] (cup a b rest) = .ok (.tup (fD fs)) (cup a' b' rest') := by
  obtain ⟨a1, b1, r, r1, r2, e1⟩ := s_roll (fu := fu) (k := k + 3) (a := a) (b := b) (rest := rest) (m := mo) h1 (by omega)
  obtain ⟨l, el, ll⟩ := range_ok (i := 1 + r) (by omega) (by omega)
  obtain ⟨a2, b2, zs, rest', z1, z2, z3, e2⟩ := s_namesG (fu := fu) (k := k) (rest := rest) el (by omega) a1 b1
  obtain ⟨a', b', fs, q1, q2, q3⟩ := fields_loop (fu := fu) (k := k + 3) (rest := rest') (A := .v (.int mo)) h3 (by omega) zs a2 b2
  have hfl : fs.length = zs.length := by rw [← q1, List.length_map]
  refine ⟨a', b', fs, rest', ⟨by omega, by omega, fun p hp => z2 p.1 (by rw [← q1]; exact List.mem_map_of_mem hp), fun p hp => by have := q2 p hp; omega, by rw [q1]; exact z3⟩, ?_⟩
  have hs : (fD fs).length ≤ 16777216 := by simp [fD]; omega
  clear el ll r1 r2
  rw [phi_ap (fn := f__law_fields) rfl rfl]
  simp [f__law_fields, b__law_fields, e1, e2, q3, sized_ok hs]
end
end K80
end
-- M22
section
set_option maxRecDepth 100000
set_option maxHeartbeats 4000000
set_option linter.all false
set_option Elab.async false
namespace K80
open PySem Fw
theorem cut_mem {α : Type} {xs : List α} {lo hi : Option Int} {x : α} (h : x ∈ cutD xs lo hi) : x ∈ xs := List.mem_of_mem_drop (List.mem_of_mem_take h)
theorem cut_len {α : Type} {xs : List α} {lo hi : Option Int} : (cutD xs lo hi).length ≤ xs.length := by
  unfold cutD
  rw [List.length_take, List.length_drop]
  omega
theorem gd_mono : ∀ (n : Nat) (d : Dat), gd n d → gd (n + 1) d
  | 0, d, h => by
    cases d <;> first | exact h | exact h.elim | exact ⟨h.1, fun x hx => (h.2 x hx).elim⟩
  | n + 1, d, h => by
    cases d <;> first | exact h | exact h.elim | exact ⟨h.1, fun x hx => gd_mono n x (h.2 x hx)⟩
/-- a row of values, each so deep at most -/
structure Row (n m : Nat) (ds : List Dat) : Prop where
  mem : ∀ d ∈ ds, gd n d
  len : ds.length ≤ m
theorem Row.cut {n m : Nat} {ds : List Dat} (h : Row n m ds) {lo hi : Option Int} : Row n m (cutD ds lo hi) := ⟨fun d hd => h.mem d (cut_mem hd), Nat.le_trans cut_len h.len⟩
theorem Row.app {n m m' : Nat} {ds es : List Dat} (h : Row n m ds) (h' : Row n m' es) : Row n (m + m') (ds ++ es) := ⟨fun d hd => (List.mem_append.mp hd).elim (h.mem d) (h'.mem d), by rw [List.length_append]; exact Nat.add_le_add h.len h'.len⟩
theorem Row.one {n : Nat} {d : Dat} (h : gd n d) : Row n 1 [d] := ⟨fun x hx => by rw [List.mem_singleton.mp hx]; exact h, Nat.le_refl _⟩
theorem Row.tup {n m : Nat} {ds : List Dat} (h : Row n m ds) (hm : m ≤ 100000) : gd (n + 1) (.tup ds) := ⟨Nat.le_trans h.len hm, h.mem⟩
theorem Row.lst {n m : Nat} {ds : List Dat} (h : Row n m ds) (hm : m ≤ 100000) : gd (n + 1) (.lst ds) := ⟨Nat.le_trans h.len hm, h.mem⟩
theorem Row.rev {n m : Nat} {ds : List Dat} (h : Row n m ds) : Row n m ds.reverse := ⟨fun d hd => h.mem d (List.mem_reverse.mp hd), by rw [List.length_reverse]; exact h.len⟩
theorem Row.up {n m : Nat} {ds : List Dat} (h : Row n m ds) : Row (n + 1) m ds := ⟨fun d hd => gd_mono n d (h.mem d hd), h.len⟩
section
variable {fu k : Nat} {rest : Store} {fs : List (Str × Int)} {many : Int}
theorem s_near (F : FOk fs) {D : List Dat} (hD : Row 2 20 D) (hD0 : D ≠ []) (hDt : ∀ d ∈ D, ∃ es, d = .tup es ∧ Row 1 20 es) (a b : Int) :
    ∃ a' b' L, Row 5 1000 L ∧ Phi tab fu (k + 2) 42 [.ref 0, .tup (fD fs), .int many, .tup D] (cup a b rest) = .ok (.lst L) (cup a' b' rest) := by
  have h0 : 0 < D.length := List.length_pos_iff.mpr hD0
  have hl := hD.len
  obtain ⟨a', b', r, r1, r2, e⟩ := s_roll (fu := fu) (k := k) (a := a) (b := b) (rest := rest) (m := D.length) (by omega) (by omega)
  have hr : r.toNat < D.length := by omega
  obtain ⟨es, he, hes⟩ := hDt D[r.toNat] (List.getElem_mem hr)
  have ea : L2.atI D r = some (.tup es) := by rw [atI_nat r1, List.getElem?_eq_getElem hr, he]
  have h8 := F.eight
  have hN : Row 1 8 (sD (fs.map (·.1))) := ⟨fun d hd => by
    obtain ⟨z, hz, rfl⟩ := List.mem_map.mp hd
    obtain ⟨p, hp, rfl⟩ := List.mem_map.mp hz
    exact name_gd (F.name p hp), by simp [sD]; omega⟩
  have hN0 : ∃ x, L2.atI (sD (fs.map (·.1))) 0 = some x ∧ gd 1 x := by
    cases hf : fs with
    | nil => have := F.one; rw [hf] at this; simp at this
    | cons p l => exact ⟨.str p.1, by simp [sD], name_gd (F.name p (by rw [hf]; exact List.mem_cons_self))⟩
  obtain ⟨x0, ex0, gx0⟩ := hN0
  have hc : ∀ A B C D E F G H I : Sl, compL (compB (Phi tab fu (k + 1)) [9] (.ix (.var 9) (.int 0)) (.var 9) .nil [A, B, C, D, E, F, G, H, I, .un]) (fD fs) (cup a' b' rest) = .ok (sD (fs.map (·.1))) (cup a' b' rest) := fun A B C D E F G H I => by
    unfold fD
    rw [compL_some (h := fun p => Dat.str p.1)]
    · simp [sD]
    · intro p _
      simp [compB]
  generalize sD (fs.map (·.1)) = N at *
  have hNl : N.length ≤ 16777216 := by have := hN.len; omega
  have hell : es.length ≤ 20 := hes.len
  have c1 := @cut_len Dat es none (some 1)
  have c2 := @cut_len Dat D none (some r)
  have c3 := @cut_len Dat D (some (r + 1)) none
  have c4 := @cut_len Dat D (some r) none
  have q1 : es.length + (cutD es none (some 1)).length ≤ 16777216 := by omega
  have q2 : (cutD D none (some r)).length + 1 ≤ 16777216 := by omega
  have q2' : (cutD D none (some r)).length ≤ 16777215 := by omega
  have q3 : (cutD D none (some r)).length + ((cutD D (some (r + 1)) none).length + 1) ≤ 16777216 := by omega
  have q3' : (cutD D none (some r)).length + 1 + (cutD D (some (r + 1)) none).length ≤ 16777216 := by omega
  have q4 : (cutD D (some r) none).length + (cutD D none (some r)).length ≤ 16777216 := by omega
  have q5 : (cutD D none (some r)).length + (cutD D (some (r + 1)) none).length ≤ 16777216 := by omega
  have q6 : D.length + 1 ≤ 16777216 := by omega
  have q6' : D.length ≤ 16777215 := by omega
  have em : opBin .Mult (.tup D) (.int 2) = some (.tup (D ++ D)) := by
    show (if D ≠ [] ∧ (1 : Int) ≤ 2 ∧ (2 : Int) * (D.length : Int) ≤ 1000000 then some (Dat.tup (List.replicate (2 : Int).toNat D).flatten) else none) = _
    rw [if_pos ⟨hD0, by decide, by omega⟩]
    simp [List.replicate_succ]
  have hcomp : ∀ (l : List Dat) (A B C E F G H : Sl), compL (compB (Phi tab fu (k + 1)) [8] (.bin .Add (.bin .Add (.sl (.var 3) .no (.yes (.var 6))) (.tup (.cons (.var 8) .nil))) (.sl (.var 3) (.yes (.bin .Add (.var 6) (.int 1))) .no)) (.var 8) .nil [A, B, C, .v (.tup D), E, F, .v (.int r), G, .un, H]) l (cup a' b' rest) = .ok (l.map fun x => .tup (cutD D none (some r) ++ [x] ++ cutD D (some (r + 1)) none)) (cup a' b' rest) := fun l A B C E F G H => by
    refine compL_ids fun x _ => ?_
    simp [compB, q2, q2', q3, q3']
  have hrow : ∀ x, gd 3 x → gd 4 (.tup (cutD D none (some r) ++ [x] ++ cutD D (some (r + 1)) none)) := fun x hx => ((hD.cut.up.app (Row.one hx)).app hD.cut.up).tup (by decide)
  generalize hg : (fun x => Dat.tup (cutD D none (some r) ++ [x] ++ cutD D (some (r + 1)) none)) = g at hcomp
  have hrow' : ∀ x, gd 3 x → gd 4 (g x) := fun x hx => by rw [← hg]; exact hrow x hx
  rw [phi_ap (fn := f__law_near) rfl rfl]
  refine ⟨a', b', ?_⟩
  simp [f__law_near, b__law_near, e, hc, sized_ok hNl, ea, ex0, q1, hcomp, q4, q5, q6, q6', em]
  have up : ∀ x, gd 3 x → gd 5 (g x) := fun x hx => gd_mono 4 _ (hrow' x hx)
  have u1 : ∀ {x}, gd 1 x → gd 3 x := fun h => gd_mono 2 _ (gd_mono 1 _ h)
  have u2 : ∀ {x}, gd 2 x → gd 3 x := fun h => gd_mono 2 _ h
  have n0 : gd 3 .non := trivial
  have hD4 := hD.up.up
  have en0 : Row 2 1 [.str "none0"] := Row.one (show gd 2 (.str "none0") from ⟨by decide +kernel, by decide +kernel⟩)
  have eA : Row 4 1 [.str "a"] := Row.one (show gd 4 (.str "a") from ⟨by decide +kernel, by decide +kernel⟩)
  refine ⟨?_, by simp⟩
  simp only [List.forall_mem_cons]
  refine ⟨up _ n0, up _ (show gd 3 (.lst []) from ⟨by simp, fun _ h => by cases h⟩), up _ (u2 (hes.lst (by decide))), up _ (u2 (hes.rev.tup (by decide))), up _ (u2 ((hes.app hes.cut).tup (by decide))), up _ (en0.tup (by decide)), up _ ((Row.one (show gd 2 .non from trivial)).tup (by decide)), up _ (u1 gx0), up _ (u2 (hN.tup (by decide))), up _ (show gd 3 (.tup []) from ⟨by simp, fun _ h => by cases h⟩), up _ (u2 (hN.cut.tup (by decide))), up _ (u2 (hN.cut.tup (by decide))), trivial, show gd 5 (.tup []) from ⟨by simp, fun _ h => by cases h⟩,
    hD4.lst (by decide), (hD4.cut.app hD4.cut).tup (by decide), (hD4.app hD4).tup (by decide), (hD4.cut.app hD4.cut).tup (by decide), hD4.rev.tup (by decide), eA.tup (by decide), (hD4.app (Row.one (show gd 4 .non from trivial))).tup (by decide), fun _ h => by cases h⟩
end
end K80
end
-- M23
section
set_option maxRecDepth 100000
set_option maxHeartbeats 4000000
set_option linter.all false
set_option Elab.async false
namespace K80
open PySem Fw
section
variable {fu k : Nat} {st : Store} {fs : List (Str × Int)} {many : Int}
theorem like_bb {p q : Bool} : Phi tab fu (k + 3) 31 [.lst [.bl p, .bl q], .lst [.bl p, .bl q]] st = .ok (.bl true) st :=
  s_like 1 (by decide) (.lst [.bl p, .bl q]) ⟨by simp, fun d hd => by
    rcases List.mem_cons.mp hd with rfl | hd
    · trivial
    · rcases List.mem_cons.mp hd with rfl | hd
      · trivial
      · cases hd⟩ k
theorem like_b {p : Bool} : Phi tab fu (k + 2) 31 [.bl p, .bl p] st = .ok (.bl true) st := s_like 0 (by decide) (.bl p) trivial k
/-- the values near, each judged alike -/
theorem value_loop (F : FOk fs) (h1 : 1 ≤ many) (h2 : many ≤ 3) {s2 s3 s4 s6 s8 s9 s10 s11 s12 s13 s15 s16 s17 C : Sl} : ∀ (l : List Dat) (s5 s14 : Sl), (∀ v ∈ l, gd 5 v) →
    ∃ t5 t14, forL (fun ρ => exes (Phi tab fu (k + 6)) fu (.cons (.asg 14 (.lst (.cons (.call 38 (.cons (.var 1) (.cons (.var 7) (.cons (.var 5) .nil)))) (.cons (.call 40 (.cons (.var 1) (.cons (.var 7) (.cons (.var 5) .nil)))) .nil)))) (.cons (.ife (.not_ (.call 31 (.cons (.lst (.cons (.call 22 (.cons (.var 1) (.cons (.var 7) (.cons (.var 5) .nil)))) (.cons (.call 23 (.cons (.var 1) (.cons (.var 7) (.cons (.var 5) .nil)))) .nil))) (.cons (.var 14) .nil)))) (.cons (.ret (.bl false)) .nil) .nil) .nil)) ρ) (bindT (.var 5)) l
      [C, .v (.tup (fD fs)), s2, s3, s4, s5, s6, .v (.int many), s8, s9, s10, s11, s12, s13, s14, s15, s16, s17] st = .ok (.nx [C, .v (.tup (fD fs)), s2, s3, s4, t5, s6, .v (.int many), s8, s9, s10, s11, s12, s13, t14, s15, s16, s17]) st
  | [], s5, s14, _ => ⟨s5, s14, rfl⟩
  | v :: l, s5, s14, h => by
    have g := h v List.mem_cons_self
    have e1 := s_is_round (fu := fu) (k := k) (st := st) (n := 3) F h1 h2 g
    have e2 := s_is_good (fu := fu) (k := k) (st := st) (n := 3) F h1 h2 g
    have e3 := s_lis_round (fu := fu) (k := k + 4) (st := st) (n := 3) (many := many) F (by omega) (by decide) g
    have e4 := s_lis_good (fu := fu) (k := k + 3) (st := st) (n := 3) (many := many) F (by omega) (by decide) g
    simp only [Ph] at e1 e2
    obtain ⟨t5, t14, e⟩ := value_loop F h1 h2 (C := C) (s2 := s2) (s3 := s3) (s4 := s4) (s6 := s6) (s8 := s8) (s9 := s9) (s10 := s10) (s11 := s11) (s12 := s12) (s13 := s13) (s15 := s15) (s16 := s16) (s17 := s17) l (.v v) (.v (.lst [.bl (fitsRoundN (fs.map (·.1)) many v), .bl (fitsGoodN fs many v)])) fun q hq => h q (List.mem_cons_of_mem _ hq)
    refine ⟨t5, t14, ?_⟩
    rw [← e]
    have e5 := like_bb (fu := fu) (k := k + 3) (st := st) (p := fitsRoundN (fs.map (·.1)) many v) (q := fitsGoodN fs many v)
    generalize fitsRoundN (fs.map (·.1)) many v = p at *
    generalize fitsGoodN fs many v = q at *
    simp [e1, e2, e3, e4, e5]
/-- odd fields, each judged alike -/
theorem odd_loop {C A B s2 s3 s4 s6 s7 s8 s9 s10 s11 s12 s13 s14 s15 s16 s17 : Sl} : ∀ (l : List Dat) (s5 : Sl), (∀ v ∈ l, gd 6 v) →
    ∃ t5, forL (fun ρ => exes (Phi tab fu (k + 4)) fu (.cons (.ife (.not_ (.call 31 (.cons (.call 20 (.cons (.var 5) .nil)) (.cons (.call 37 (.cons (.var 5) .nil)) .nil)))) (.cons (.ret (.bl false)) .nil) .nil) .nil) ρ) (bindT (.var 5)) l
      [C, A, s2, s3, s4, s5, s6, s7, s8, s9, s10, s11, s12, s13, s14, s15, s16, s17] st = .ok (.nx [C, A, s2, s3, s4, t5, s6, s7, s8, s9, s10, s11, s12, s13, s14, s15, s16, s17]) st
  | [], s5, _ => ⟨s5, rfl⟩
  | v :: l, s5, h => by
    have g := h v List.mem_cons_self
    have e1 := s_are_fields (fu := fu) (k := k) (st := st) (n := 4) g
    have e2 := s_lare_fields (fu := fu) (k := k + 2) (st := st) (n := 4) (by decide) g
    have e3 := like_b (fu := fu) (k := k + 2) (st := st) (p := fieldsN v)
    simp only [Ph] at e1
    obtain ⟨t5, e⟩ := odd_loop (C := C) (A := A) (B := B) (s2 := s2) (s3 := s3) (s4 := s4) (s6 := s6) (s7 := s7) (s8 := s8) (s9 := s9) (s10 := s10) (s11 := s11) (s12 := s12) (s13 := s13) (s14 := s14) (s15 := s15) (s16 := s16) (s17 := s17) l (.v v) fun q hq => h q (List.mem_cons_of_mem _ hq)
    refine ⟨t5, ?_⟩
    rw [← e]
    generalize fieldsN v = p at *
    simp [e1, e2, e3]
end
end K80
end
-- M24
section
set_option maxRecDepth 100000
set_option maxHeartbeats 4000000
set_option linter.all false
set_option Elab.async false
namespace K80
open PySem Fw
/-- a day as it must be -/
structure DayOk (names : List Str) (many : Int) (zs : List Str) : Prop where
  rise : risingN zs = true
  mem : ∀ z ∈ zs, z ∈ names
  len : (zs.length : Int) ≤ many
theorem DayOk.fits {names : List Str} {many : Int} {zs : List Str} (h : DayOk names many zs) : fitsDayN names many (.tup (sD zs)) = true := by
  show (decide (((sD zs).length : Int) ≤ many) && ((sD zs).all (amongN names) && risingN (strsN (sD zs)))) = true
  rw [strs_sD, h.rise, decide_eq_true (by simpa [sD] using h.len)]
  simp only [Bool.true_and, Bool.and_true]
  rw [List.all_eq_true]
  intro d hd
  obtain ⟨z, hz, rfl⟩ := List.mem_map.mp hd
  exact decide_eq_true (h.mem z hz)
theorem dssN_dD (dss : List (List Str)) : dssN (.tup (dD dss)) = dss := by
  show (dD dss).map _ = dss
  unfold dD
  rw [List.map_map]
  conv => rhs; rw [← List.map_id dss]
  exact List.map_congr_left fun zs _ => strs_sD zs
theorem round_fits {names : List Str} {many : Int} {dss : List (List Str)} (h : ∀ zs ∈ dss, DayOk names many zs) (h1 : 1 ≤ dss.length) (h2 : dss.length ≤ 2000) : fitsRoundN names many (.tup (dD dss)) = true := by
  show (decide (1 ≤ (dD dss).length) && decide ((dD dss).length ≤ 2000) && (dD dss).all (fitsDayN names many)) = true
  have e : (dD dss).length = dss.length := by simp [dD]
  rw [e, decide_eq_true h1, decide_eq_true h2]
  simp only [Bool.true_and]
  rw [List.all_eq_true]
  intro d hd
  obtain ⟨zs, hz, rfl⟩ := List.mem_map.mp hd
  exact (h zs hz).fits
theorem sort_day {names ys : List Str} {many : Int} (hn : risingN names = true) (hs : ys.Sublist names) (hm : 0 ≤ many) : DayOk names many (sortS (ys.take many.toNat)) := by
  have nd : names.Nodup := ((rising_pairs _).mp hn).imp fun h => ltS_ne h
  have hsub : (ys.take many.toNat).Sublist names := (List.take_sublist _ _).trans hs
  have nd2 : (ys.take many.toNat).Nodup := nd.sublist hsub
  have nd3 : (sortS (ys.take many.toNat)).Nodup := (sortS_perm _).nodup_iff.mpr nd2
  refine ⟨(rising_pairs _).mpr (List.Pairwise.imp₂ (fun a b h1 h2 => leS_ltS h1 h2) (sortS_sorted _) nd3), fun z hz => hsub.subset ((sortS_perm _).mem_iff.mp hz), ?_⟩
  rw [(sortS_perm _).length_eq, List.length_take]
  omega
section
variable {fu k : Nat} {rest : Store} {fs : List (Str × Int)} {many : Int}
theorem sorted_strs' {st : Store} {zs : List Str} (h : zs.length < 64) : opBi st .sorted [.lst (sD zs)] = some (.lst (sD (sortS zs))) := by
  have e2 : strsOf (sD zs) = some zs := by
    have := strsOf_map zs id
    simpa [sD] using this
  show (match intsOf (sD zs) with
    | some ns => some (Dat.lst ((sortI ns).map Dat.int))
    | none => match strsOf (sD zs) with
      | some zs => if zs.length < 64 then some (Dat.lst ((sortS zs).map Dat.str)) else none
      | none => none) = _
  cases zs with
  | nil => rfl
  | cons z zs =>
    rw [show intsOf (sD (z :: zs)) = none from rfl, e2]
    show (if (z :: zs).length < 64 then some (Dat.lst ((sortS (z :: zs)).map Dat.str)) else none) = _
    rw [if_pos h]
    rfl
theorem pick_loop {A B C D E F G H I J K L M N O P : Sl} : ∀ (zs : List Str) (a b : Int), ∃ a' b' ys, ys.Sublist zs ∧
    compL (compB (Phi tab fu (k + 1)) [12] (.var 12) (.var 12) (.cons (.cmp .Eq (.call 28 (.cons (.var 0) (.cons (.int 2) .nil))) (.int 0)) .nil) [.v (.ref 0), A, B, C, D, E, F, G, H, I, J, K, L, M, N, O, P, .un]) (sD zs) (cup a b rest) = .ok (sD ys) (cup a' b' rest)
  | [], a, b => ⟨a, b, [], .slnil, rfl⟩
  | z :: zs, a, b => by
    obtain ⟨a1, b1, r, r1, r2, e1⟩ := s_roll (fu := fu) (k := k) (a := a) (b := b) (rest := rest) (m := 2) (by decide) (by decide)
    obtain ⟨a', b', ys, q1, q2⟩ := pick_loop (A := A) (B := B) (C := C) (D := D) (E := E) (F := F) (G := G) (H := H) (I := I) (J := J) (K := K) (L := L) (M := M) (N := N) (O := O) (P := P) zs a1 b1
    by_cases hr : r = 0
    · refine ⟨a', b', z :: ys, q1.cons₂ z, ?_⟩
      have step : compB (Phi tab fu (k + 1)) [12] (.var 12) (.var 12) (.cons (.cmp .Eq (.call 28 (.cons (.var 0) (.cons (.int 2) .nil))) (.int 0)) .nil) [.v (.ref 0), A, B, C, D, E, F, G, H, I, J, K, L, M, N, O, P, .un] (.str z) (cup a b rest) = .ok (some (.str z)) (cup a1 b1 rest) := by
        simp [compB, e1, cmp_eq, hr]
      show compL _ (.str z :: sD zs) _ = _
      simp only [compL, mbind_ap, mpure_ap, step, q2, bd_ok]
      rfl
    · refine ⟨a', b', ys, q1.cons z, ?_⟩
      have step : compB (Phi tab fu (k + 1)) [12] (.var 12) (.var 12) (.cons (.cmp .Eq (.call 28 (.cons (.var 0) (.cons (.int 2) .nil))) (.int 0)) .nil) [.v (.ref 0), A, B, C, D, E, F, G, H, I, J, K, L, M, N, O, P, .un] (.str z) (cup a b rest) = .ok none (cup a1 b1 rest) := by
        simp [compB, e1, cmp_eq, hr]
      show compL _ (.str z :: sD zs) _ = _
      simp only [compL, mbind_ap, mpure_ap, step, q2, bd_ok]
theorem days_loop {names : List Str} (hn : risingN names = true) (hl8 : names.length ≤ 8) (hm : 0 ≤ many) {s1 s2 s3 s4 s5 s10 s11 s12 s14 s15 s16 : Sl} : ∀ (l : List Dat) (dss : List (List Str)) (a b : Int) (s9 s13 : Sl), (∀ zs ∈ dss, DayOk names many zs) → dss.length + l.length ≤ 1000 →
    ∃ a' b' dss' t9 t13, (∀ zs ∈ dss', DayOk names many zs) ∧ dss'.length = dss.length + l.length ∧
      forL (fun ρ => exes (Phi tab fu (k + 1)) fu (.cons (.asg 13 (.comp [12] (.var 12) (.var 12) (.seq (.var 6)) (.cons (.cmp .Eq (.call 28 (.cons (.var 0) (.cons (.int 2) .nil))) (.int 0)) .nil))) (.cons (.asg 8 (.bin .Add (.var 8) (.tup (.cons (.bi .tuple (.cons (.bi .sorted (.cons (.sl (.var 13) .no (.yes (.var 7))) .nil)) .nil)) .nil)))) .nil)) ρ) (bindT (.var 9)) l
        [.v (.ref 0), s1, s2, s3, s4, s5, .v (.lst (sD names)), .v (.int many), .v (.tup (dD dss)), s9, s10, s11, s12, s13, s14, s15, s16, .un] (cup a b rest) =
      .ok (.nx [.v (.ref 0), s1, s2, s3, s4, s5, .v (.lst (sD names)), .v (.int many), .v (.tup (dD dss')), t9, s10, s11, s12, t13, s14, s15, s16, .un]) (cup a' b' rest)
  | [], dss, a, b, s9, s13, h, hl => ⟨a, b, dss, s9, s13, h, by simp, rfl⟩
  | d :: l, dss, a, b, s9, s13, h, hl => by
    obtain ⟨a1, b1, ys, hs, e1⟩ := pick_loop (fu := fu) (k := k) (rest := rest) (A := s1) (B := s2) (C := s3) (D := s4) (E := s5) (F := .v (.lst (sD names))) (G := .v (.int many)) (H := .v (.tup (dD dss))) (I := .v d) (J := s10) (K := s11) (L := s12) (M := s13) (N := s14) (O := s15) (P := s16) names a b
    have hd := sort_day hn hs hm
    obtain ⟨a', b', dss', t9, t13, q1, q2, q3⟩ := days_loop (names := names) hn hl8 hm (s1 := s1) (s2 := s2) (s3 := s3) (s4 := s4) (s5 := s5) (s10 := s10) (s11 := s11) (s12 := s12) (s14 := s14) (s15 := s15) (s16 := s16) l (dss ++ [sortS (ys.take many.toNat)]) a1 b1 (.v d) (.v (.lst (sD ys))) (fun zs hz => by
      rcases List.mem_append.mp hz with z | z
      · exact h zs z
      · rw [List.mem_singleton.mp z]; exact hd) (by simp at hl ⊢; omega)
    refine ⟨a', b', dss', t9, t13, q1, by simp at q2 ⊢; omega, ?_⟩
    rw [← q3]
    have hyl := hs.length_le
    have hys : (sD ys).length ≤ 16777216 := by simp [sD]; omega
    have ec : cutD (sD ys) none (some many) = sD (ys.take many.toNat) := by
      rw [cut_take hm]
      unfold sD
      rw [List.map_take]
    have es := sorted_strs' (st := cup a1 b1 rest) (zs := ys.take many.toNat) (by rw [List.length_take]; omega)
    have ed : dD dss ++ [.tup (sD (sortS (ys.take many.toNat)))] = dD (dss ++ [sortS (ys.take many.toNat)]) := by simp [dD]
    have hdl : (dD dss).length + 1 ≤ 16777216 := by simp [dD] at hl ⊢; omega
    have hdl' : (dD dss).length ≤ 16777215 := by omega
    simp [e1, sized_ok hys, ec, es, hdl, hdl', ed]
theorem waits_loop {A B C D E F G H I J K L M N O : Sl} : ∀ (l : List (Str × Int)) (a b : Int), (∀ p ∈ l, 1 ≤ p.2 ∧ p.2 ≤ 12) → ∃ a' b' ws, WOkN l ws ∧
    compL (compB (Phi tab fu (k + 1)) [12, 17] (.call 28 (.cons (.var 0) (.cons (.var 17) .nil))) (.tup (.cons (.var 12) (.cons (.var 17) .nil))) .nil [.v (.ref 0), A, B, C, D, E, F, G, H, I, J, K, L, M, N, O, .un, .un]) (fD l) (cup a b rest) = .ok (iD ws) (cup a' b' rest)
  | [], a, b, _ => ⟨a, b, [], ⟨rfl, fun p hp => by cases hp⟩, rfl⟩
  | (x, d) :: l, a, b, h => by
    have hd : 1 ≤ d ∧ d ≤ 12 := h _ List.mem_cons_self
    obtain ⟨a1, b1, r, r1, r2, e1⟩ := s_roll (fu := fu) (k := k) (a := a) (b := b) (rest := rest) (m := d) (by omega) (by omega)
    obtain ⟨a', b', ws, q1, q2⟩ := waits_loop (A := A) (B := B) (C := C) (D := D) (E := E) (F := F) (G := G) (H := H) (I := I) (J := J) (K := K) (L := L) (M := M) (N := N) (O := O) l a1 b1 fun p hp => h p (List.mem_cons_of_mem _ hp)
    refine ⟨a', b', r :: ws, ⟨by simp [q1.len], fun p hp => ?_⟩, ?_⟩
    · rw [List.zip_cons_cons] at hp
      rcases List.mem_cons.mp hp with rfl | hp
      · exact ⟨r1, r2⟩
      · exact q1.in_ p hp
    · have step : compB (Phi tab fu (k + 1)) [12, 17] (.call 28 (.cons (.var 0) (.cons (.var 17) .nil))) (.tup (.cons (.var 12) (.cons (.var 17) .nil))) .nil [.v (.ref 0), A, B, C, D, E, F, G, H, I, J, K, L, M, N, O, .un, .un] (.tup [.str x, .int d]) (cup a b rest) = .ok (some (.int r)) (cup a1 b1 rest) := by
        simp [compB, e1]
      show compL _ (.tup [.str x, .int d] :: fD l) _ = _
      simp only [compL, mbind_ap, mpure_ap, step, q2, bd_ok]
      rfl
end
end K80
end
-- M25
section
set_option maxRecDepth 100000
set_option maxHeartbeats 4000000
set_option linter.all false
set_option Elab.async false
namespace K80
open PySem Fw
def turnB : ISs := (.cons (.asg 8 (.tup .nil)) (.cons (.for_ (.var 9) (.range1 (.bin .Add (.int 1) (.call 28 (.cons (.var 0) (.cons (.int 6) .nil))))) (.cons (.asg 13 (.comp [12] (.var 12) (.var 12) (.seq (.var 6)) (.cons (.cmp .Eq (.call 28 (.cons (.var 0) (.cons (.int 2) .nil))) (.int 0)) .nil))) (.cons (.asg 8 (.bin .Add (.var 8) (.tup (.cons (.bi .tuple (.cons (.bi .sorted (.cons (.sl (.var 13) .no (.yes (.var 7))) .nil)) .nil)) .nil)))) .nil))) (.cons (.asg 10 (.bi .tuple (.cons (.comp [12, 17] (.call 28 (.cons (.var 0) (.cons (.var 17) .nil))) (.tup (.cons (.var 12) (.cons (.var 17) .nil))) (.seq (.var 1)) .nil) .nil))) (.cons (.asg 11 (.lst (.cons (.call 22 (.cons (.var 1) (.cons (.var 7) (.cons (.var 8) .nil)))) (.cons (.call 23 (.cons (.var 1) (.cons (.var 7) (.cons (.var 8) .nil)))) (.cons (.call 26 (.cons (.var 1) (.cons (.var 7) (.cons (.var 10) (.cons (.var 8) .nil))))) .nil))))) (.cons (.ife (.not_ (.call 31 (.cons (.var 11) (.cons (.lst (.cons (.bl true) (.cons (.call 40 (.cons (.var 1) (.cons (.var 7) (.cons (.var 8) .nil)))) (.cons (.call 41 (.cons (.var 1) (.cons (.var 10) (.cons (.var 8) .nil)))) .nil)))) .nil)))) (.cons (.ret (.bl false)) .nil) .nil) (.cons (.ife (.cmp .NotEq (.comp [12] (.var 12) (.var 12) (.seq (.var 6)) (.cons (.not_ (.call 31 (.cons (.call 25 (.cons (.var 1) (.cons (.var 7) (.cons (.var 8) (.cons (.var 12) .nil))))) (.cons (.call 39 (.cons (.var 8) (.cons (.var 12) .nil))) .nil)))) .nil)) (.lst .nil)) (.cons (.ret (.bl false)) .nil) .nil) (.cons (.for_ (.var 5) (.seq (.call 42 (.cons (.var 0) (.cons (.var 1) (.cons (.var 7) (.cons (.var 8) .nil)))))) (.cons (.asg 14 (.lst (.cons (.call 38 (.cons (.var 1) (.cons (.var 7) (.cons (.var 5) .nil)))) (.cons (.call 40 (.cons (.var 1) (.cons (.var 7) (.cons (.var 5) .nil)))) .nil)))) (.cons (.ife (.not_ (.call 31 (.cons (.lst (.cons (.call 22 (.cons (.var 1) (.cons (.var 7) (.cons (.var 5) .nil)))) (.cons (.call 23 (.cons (.var 1) (.cons (.var 7) (.cons (.var 5) .nil)))) .nil))) (.cons (.var 14) .nil)))) (.cons (.ret (.bl false)) .nil) .nil) .nil))) .nil)))))))
theorem gd_b {n : Nat} {p : Bool} : gd n (.bl p) := by cases n <;> trivial
theorem gd_optD {n : Nat} {o : Option Int} : gd n (optD o) := by cases n <;> cases o <;> trivial
theorem gd_optT {o : Option (List Int)} {n : Nat} (h : ∀ ws, o = some ws → ws.length ≤ 1000) : gd (n + 1) (optT o) := by
  cases o with
  | none => trivial
  | some ws => exact ⟨by have := h ws rfl; simp [iD]; omega, fun d hd => by
      obtain ⟨i, _, rfl⟩ := List.mem_map.mp hd
      cases n <;> trivial⟩
theorem played_ok {fs : List (Str × Int)} : ∀ (dss : List (List Str)) (ws ws' : List Int), WOkN fs ws → playedN fs ws dss = some ws' → WOkN fs ws'
  | [], ws, ws', h, e => by cases e; exact h
  | zs :: r, ws, ws', h, e => by
    rw [played_cons] at e
    cases hb : behindN fs ws zs with
    | none => rw [hb] at e; cases e
    | some w2 =>
      rw [hb] at e
      exact played_ok r w2 ws' (behind_ok h hb) e
section
variable {fu k : Nat} {st : Store} {rest : Store} {fs : List (Str × Int)} {many : Int}
theorem gd_days (F : FOk fs) {dss : List (List Str)} (h : ∀ zs ∈ dss, DayOk (fs.map (·.1)) many zs) (hm : many ≤ 3) (hl : dss.length ≤ 20) : Row 2 20 (dD dss) ∧ ∀ d ∈ dD dss, ∃ es, d = .tup es ∧ Row 1 20 es := by
  have hz : ∀ zs ∈ dss, Row 1 20 (sD zs) := fun zs hz => by
    have hd := h zs hz
    refine ⟨fun d hd2 => ?_, by have := hd.len; simp [sD]; omega⟩
    obtain ⟨z, q, rfl⟩ := List.mem_map.mp hd2
    obtain ⟨p, hp, e⟩ := List.mem_map.mp (hd.mem z q)
    rw [← e]
    exact name_gd (F.name p hp)
  refine ⟨⟨fun d hd => ?_, by simpa [dD] using hl⟩, fun d hd => ?_⟩
  · obtain ⟨zs, q, rfl⟩ := List.mem_map.mp hd
    exact (hz zs q).tup (by decide)
  · obtain ⟨zs, q, rfl⟩ := List.mem_map.mp hd
    exact ⟨sD zs, rfl, hz zs q⟩
theorem turn_ok (F : FOk fs) (h1 : 1 ≤ many) (h2 : many ≤ 3) {s3 s4 s12 s15 s16 : Sl} (a b : Int) (s2 s5 s8 s9 s10 s11 s13 s14 : Sl) :
    ∃ a' b' t5 t8 t9 t10 t11 t13 t14, exes (Phi tab fu (k + 6)) fu turnB [.v (.ref 0), .v (.tup (fD fs)), s2, s3, s4, s5, .v (.lst (sD (fs.map (·.1)))), .v (.int many), s8, s9, s10, s11, .un, s13, s14, s15, .un, .un] (cup a b rest) =
      .ok (.nx [.v (.ref 0), .v (.tup (fD fs)), s2, s3, s4, t5, .v (.lst (sD (fs.map (·.1)))), .v (.int many), t8, t9, t10, t11, .un, t13, t14, s15, .un, .un]) (cup a' b' rest) := by
  have h8 := F.eight
  obtain ⟨a1, b1, r, r1, r2, e1⟩ := s_roll (fu := fu) (k := k + 5) (a := a) (b := b) (rest := rest) (m := 6) (by decide) (by decide)
  obtain ⟨l, el, ll⟩ := range_ok (i := 1 + r) (by omega) (by omega)
  obtain ⟨a2, b2, dss, t9, t13, d1, d2, d3⟩ := days_loop (fu := fu) (k := k + 5) (rest := rest) (many := many) (names := fs.map (·.1)) F.rise (by simpa using h8) (by omega) (s1 := .v (.tup (fD fs))) (s2 := s2) (s3 := s3) (s4 := s4) (s5 := s5) (s10 := s10) (s11 := s11) (s12 := .un) (s14 := s14) (s15 := s15) (s16 := .un) l [] a1 b1 s9 s13 (fun zs hz => by cases hz) (by simp; omega)
  have dl : dss.length = l.length := by simpa using d2
  obtain ⟨a3, b3, ws, w1, w2⟩ := waits_loop (fu := fu) (k := k + 5) (rest := rest) (A := .v (.tup (fD fs))) (B := s2) (C := s3) (D := s4) (E := s5) (F := .v (.lst (sD (fs.map (·.1))))) (G := .v (.int many)) (H := .v (.tup (dD dss))) (I := t9) (J := s10) (K := s11) (L := .un) (M := t13) (N := s14) (O := s15) fs a2 b2 F.days
  obtain ⟨hD, hDt⟩ := gd_days F d1 h2 (by omega)
  have hD0 : dD dss ≠ [] := fun z => by
    have := congrArg List.length z
    simp [dD] at this
    rw [this] at dl
    simp at dl
    omega
  obtain ⟨a4, b4, L, hL, e4⟩ := s_near (fu := fu) (k := k + 4) (rest := rest) (many := many) F hD hD0 hDt a3 b3
  have hfit := round_fits d1 (by omega) (by omega)
  have g2 : gd (1 + 2) (.tup (dD dss)) := hD.tup (by decide)
  have i1 := s_is_round (fu := fu) (k := k) (st := cup a3 b3 rest) F h1 h2 g2
  have i2 := s_is_good (fu := fu) (k := k) (st := cup a3 b3 rest) F h1 h2 g2
  have i3 := s_waits_behind (fu := fu) (k := k) (st := cup a3 b3 rest) F h1 h2 g2 hfit w1
  have i4 := s_lis_good (fu := fu) (many := many) (k := k + 3) (st := cup a3 b3 rest) F (by omega) (by decide) g2
  have i5 := s_lplayed (fu := fu) (k := k + 4) (st := cup a3 b3 rest) (dss := dss) F w1
  rw [dssN_dD] at i3
  rw [hfit] at i1
  have gP : gd 2 (.lst [.bl true, .bl (fitsGoodN fs many (.tup (dD dss))), optT (playedN fs ws dss)]) := ⟨by simp, fun d hd => by
    rcases List.mem_cons.mp hd with rfl | hd
    · exact gd_b
    · rcases List.mem_cons.mp hd with rfl | hd
      · exact gd_b
      · rcases List.mem_cons.mp hd with rfl | hd
        · exact gd_optT fun w e => by have := (played_ok dss ws w w1 e).len; omega
        · cases hd⟩
  have i6 := s_like (fu := fu) (st := cup a3 b3 rest) 2 (by decide) _ gP (k + 2)
  have hsn : (sD (fs.map (·.1))) = fs.map fun p => Dat.str p.1 := by simp [sD]
  have i7 : ∀ A B C D E G H I J K L M N : Sl, compL (compB (Phi tab fu (k + 6)) [12] (.var 12) (.var 12) (.cons (.not_ (.call 31 (.cons (.call 25 (.cons (.var 1) (.cons (.var 7) (.cons (.var 8) (.cons (.var 12) .nil))))) (.cons (.call 39 (.cons (.var 8) (.cons (.var 12) .nil))) .nil)))) .nil) [A, .v (.tup (fD fs)), B, C, D, E, G, .v (.int many), .v (.tup (dD dss)), H, I, J, K, L, M, N, .un, .un]) (sD (fs.map (·.1))) (cup a3 b3 rest) = .ok [] (cup a3 b3 rest) := fun A B C D E G H I J K L M N => by
    rw [hsn, compL_map (h := fun _ => none)]
    · congr 1
      induction fs <;> simp
    · intro p hp
      have j1 := s_longest_wait (fu := fu) (k := k) (st := cup a3 b3 rest) (x := p.1) F h1 h2 g2 hfit (List.mem_map_of_mem hp)
      have j2 := s_llongest (fu := fu) (k := k + 5) (st := cup a3 b3 rest) (x := p.1) (n := 2) (dss := dss) (by decide) (by omega) (by omega) g2
      rw [dssN_dD, wait_long] at j1
      have j3 := s_like (fu := fu) (st := cup a3 b3 rest) 0 (by decide) (optD (longN (hasN p.1 dss))) gd_optD (k + 4)
      generalize optD (longN (hasN p.1 dss)) = o at *
      simp only [Ph] at j1
      simp [compB, j1, j2, j3]
  obtain ⟨t5, t14, v1⟩ := value_loop (fu := fu) (k := k) (st := cup a4 b4 rest) F h1 h2 (C := .v (.ref 0)) (s2 := s2) (s3 := s3) (s4 := s4) (s6 := .v (.lst (sD (fs.map (·.1))))) (s8 := .v (.tup (dD dss))) (s9 := t9) (s10 := .v (.tup (iD ws))) (s11 := .v (.lst [.bl true, .bl (fitsGoodN fs many (.tup (dD dss))), optT (playedN fs ws dss)])) (s12 := .un) (s13 := t13) (s15 := s15) (s16 := .un) (s17 := .un) L s5 s14 hL.mem
  refine ⟨a4, b4, t5, .v (.tup (dD dss)), t9, .v (.tup (iD ws)), .v (.lst [.bl true, .bl (fitsGoodN fs many (.tup (dD dss))), optT (playedN fs ws dss)]), t13, t14, ?_⟩
  have hws : (iD ws).length ≤ 16777216 := by have := w1.len; simp [iD]; omega
  have e0 : opEq (.lst []) (.lst []) = some true := rfl
  have ed0 : dD [] = [] := rfl
  rw [ed0] at d3
  simp only [Ph] at i1 i2 i3
  clear hL hD hDt hD0 hfit g2 gP hsn d1 d2 dl
  generalize fitsGoodN fs many (.tup (dD dss)) = G at *
  generalize optT (playedN fs ws dss) = PP at *
  simp [turnB, e1, el]
  rw [d3]
  simp [w2, sized_ok hws, i1, i2, i3, i4, i5, i6, i7, cmp_ne, e0, e4]
  rw [v1]
  rfl
end
end K80
end
-- M26
section
set_option maxRecDepth 100000
set_option maxHeartbeats 4000000
set_option linter.all false
set_option Elab.async false
namespace K80
open PySem Fw
def divG (p : Str × Int) : Int := (27720 : Int).fdiv p.2
theorem sum_G : ∀ fs : List (Str × Int), (∀ p ∈ fs, 1 ≤ p.2 ∧ p.2 ≤ 12) → (fs.map divG).sum = ((sumN fs : Nat) : Int)
  | [], _ => rfl
  | p :: fs, h => by
    have hp := h p List.mem_cons_self
    have ih := sum_G fs fun q hq => h q (List.mem_cons_of_mem _ hq)
    have e : divG p = ((27720 / p.2.toNat : Nat) : Int) := by
      unfold divG
      have : p.2 = ((p.2.toNat : Nat) : Int) := by omega
      rw [this]
      exact fdiv_nat 27720 p.2.toNat
    rw [List.map_cons, List.sum_cons, ih, e]
    unfold sumN
    rw [List.map_cons, List.sum_cons]
    omega
theorem strA13 : ∃ x, opBin .Mult (.str "a") (.int 13) = some (.str x) ∧ (x.length ≤ 1000 ∧ x.cps.all (· < 0x110000) = true) := ⟨_, rfl, by decide +kernel⟩
theorem strZ12 : ∃ x, opBin .Mult (.str "z") (.int 12) = some (.str x) ∧ (x.length ≤ 1000 ∧ x.cps.all (· < 0x110000) = true) := ⟨_, rfl, by decide +kernel⟩
section
variable {fu k : Nat} {rest : Store} {fs : List (Str × Int)} {many : Int}
theorem turns_loop (F : FOk fs) (h1 : 1 ≤ many) (h2 : many ≤ 3) {s3 s4 s15 : Sl} : ∀ (l : List Dat) (a b : Int) (s2 s5 s8 s9 s10 s11 s13 s14 : Sl),
    ∃ a' b' t2 t5 t8 t9 t10 t11 t13 t14, forL (fun ρ => exes (Phi tab fu (k + 6)) fu turnB ρ) (bindT (.var 2)) l [.v (.ref 0), .v (.tup (fD fs)), s2, s3, s4, s5, .v (.lst (sD (fs.map (·.1)))), .v (.int many), s8, s9, s10, s11, .un, s13, s14, s15, .un, .un] (cup a b rest) =
      .ok (.nx [.v (.ref 0), .v (.tup (fD fs)), t2, s3, s4, t5, .v (.lst (sD (fs.map (·.1)))), .v (.int many), t8, t9, t10, t11, .un, t13, t14, s15, .un, .un]) (cup a' b' rest)
  | [], a, b, s2, s5, s8, s9, s10, s11, s13, s14 => ⟨a, b, s2, s5, s8, s9, s10, s11, s13, s14, rfl⟩
  | d :: l, a, b, s2, s5, s8, s9, s10, s11, s13, s14 => by
    obtain ⟨a1, b1, u5, u8, u9, u10, u11, u13, u14, e1⟩ := turn_ok (fu := fu) (k := k) (rest := rest) F h1 h2 (s3 := s3) (s4 := s4) (s12 := .un) (s15 := s15) (s16 := .un) a b (.v d) s5 s8 s9 s10 s11 s13 s14
    obtain ⟨a', b', t2, t5, t8, t9, t10, t11, t13, t14, e2⟩ := turns_loop F h1 h2 (s3 := s3) (s4 := s4) (s15 := s15) l a1 b1 (.v d) u5 u8 u9 u10 u11 u13 u14
    refine ⟨a', b', t2, t5, t8, t9, t10, t11, t13, t14, ?_⟩
    rw [← e2, forL_cons]
    simp only [bT_var, ofO_some, bd_ok, List.set_cons_succ, List.set_cons_zero]
    rw [e1]
    rfl
theorem s_right (hf : 1000000 ≤ fu) (F : FOk fs) (a b : Int) : ∃ a' b', Phi tab fu (k + 7) 43 [.ref 0, .tup (fD fs)] (cup a b rest) = .ok (.bl true) (cup a' b' rest) := by
  have h8 := F.eight
  have hone := F.one
  have g1 := s_are_fields (fu := fu) (k := k + 2) (st := cup a b rest) (F.gd (n := 0))
  rw [F.fits] at g1
  have g2 := s_density (fu := fu) (k := k + 1) (st := cup a b rest) hf F
  have g3 := s_least (fu := fu) (k := k + 5) (st := cup a b rest) hf (sumN fs)
  rw [← sum_G fs F.days] at g3
  have gdf : ∀ p : Nat × Nat, gd 1 (fr p) := fun p => ⟨by simp, fun d hd => by
    rcases List.mem_cons.mp hd with rfl | hd
    · trivial
    · rcases List.mem_cons.mp hd with rfl | hd
      · trivial
      · cases hd⟩
  have g4 := s_like (fu := fu) (st := cup a b rest) 2 (by decide) (.lst [.bl true, fr (lowN (sumN fs))]) ⟨by simp, fun d hd => by
    rcases List.mem_cons.mp hd with rfl | hd
    · trivial
    · rcases List.mem_cons.mp hd with rfl | hd
      · exact gdf _
      · cases hd⟩ (k + 2)
  have hdiv : ∀ p ∈ fs, opBin .FloorDiv (.int 27720) (.int p.2) = some (.int (divG p)) := fun p hp => by
    have := F.days p hp
    rw [bin_div_int, if_pos ⟨by omega, by omega⟩]
    rfl
  have c1 : ∀ A B C D E G H I J K L M N O P : Sl, compL (compB (Phi tab fu (k + 6)) [12, 8] (.bin .FloorDiv (.int 27720) (.var 8)) (.tup (.cons (.var 12) (.cons (.var 8) .nil))) .nil [A, .v (.tup (fD fs)), B, C, D, E, G, H, I, J, K, L, M, N, O, P, .un, .un]) (fD fs) (cup a b rest) = .ok (fs.map fun p => Dat.int (divG p)) (cup a b rest) := fun A B C D E G H I J K L M N O P => by
    conv => lhs; arg 2; unfold fD
    refine compL_some fun p hp => ?_
    simp [compB, hdiv p hp]
  have c1s : opBi (cup a b rest) .sum [.lst (fs.map fun p => Dat.int (divG p))] = some (.int (fs.map divG).sum) := by
    show (intsOf (fs.map fun p => Dat.int (divG p))).map (fun ns => Dat.int ns.sum) = _
    rw [intsOf_map]
    rfl
  have c2 : ∀ A B C D E G H I J K L M N O : Sl, compL (compB (Phi tab fu (k + 6)) [15] (.ix (.var 15) (.int 0)) (.var 15) .nil [A, .v (.tup (fD fs)), B, C, D, E, G, H, I, J, K, L, M, N, O, .un, .un, .un]) (fD fs) (cup a b rest) = .ok (sD (fs.map (·.1))) (cup a b rest) := fun A B C D E G H I J K L M N O => by
    conv => lhs; arg 2; unfold fD
    rw [compL_some (h := fun p => Dat.str p.1)]
    · simp [sD]
    · intro p _
      simp [compB]
  obtain ⟨a1, b1, r, r1, r2, e1⟩ := s_roll (fu := fu) (k := k + 5) (a := a) (b := b) (rest := rest) (m := 3) (by decide) (by decide)
  obtain ⟨l4, el4⟩ : ∃ l, range1Of (.int 4) = some l := ⟨_, rfl⟩
  obtain ⟨a2, b2, t2, t5, t8, t9, t10, t11, t13, t14, e2⟩ := turns_loop (fu := fu) (k := k) (rest := rest) (many := 1 + r) F (by omega) (by omega) (s3 := .un) (s4 := .un) (s15 := .un) l4 a1 b1 .un .un .un .un .un .un .un .un
  obtain ⟨a3, b3, q, q1, q2, e3⟩ := s_roll (fu := fu) (k := k + 5) (a := a2) (b := b2) (rest := rest) (m := fs.length) (by omega) (by omega)
  have hqn : q.toNat < fs.length := by omega
  have hlen : (fD fs).length = fs.length := by simp [fD]
  obtain ⟨x, d, hxd⟩ : ∃ x d, fs[q.toNat] = (x, d) := ⟨_, _, rfl⟩
  have hmem : (x, d) ∈ fs := by rw [← hxd]; exact List.getElem_mem hqn
  have gx := name_gd (F.name _ hmem)
  have gxs : ∀ n, gd n (.str x) := fun n => by cases n <;> exact gx
  have ea : L2.atI (fD fs) q = some (.tup [.str x, .int d]) := by
    rw [atI_nat q1]
    unfold fD
    rw [List.getElem?_map, List.getElem?_eq_getElem hqn, hxd]
    rfl
  have hD : Row 1 8 (fD fs) := ⟨fun y hy => by
    have := (F.gd (n := 0)).tup y hy
    exact this, by omega⟩
  rw [← hlen] at e3
  have hsn : (sD (fs.map (·.1))).length ≤ 16777216 := by simp [sD]; omega
  have hsm : (fs.map fun p => Dat.int (divG p)).length ≤ 16777216 := by simp; omega
  obtain ⟨xa, exa, gxa⟩ := strA13
  obtain ⟨xz, exz, gxz⟩ := strZ12
  have c3' := @cut_len Dat (fD fs) none (some q)
  have c4' := @cut_len Dat (fD fs) (some (q + 1)) none
  have c5' := @cut_len Dat (fD fs) none (some 1)
  have k2 : (cutD (fD fs) none (some q)).length + 1 ≤ 16777216 := by omega
  have k2' : (cutD (fD fs) none (some q)).length ≤ 16777215 := by omega
  have k3 : (cutD (fD fs) none (some q)).length + ((cutD (fD fs) (some (q + 1)) none).length + 1) ≤ 16777216 := by omega
  have k3' : (cutD (fD fs) none (some q)).length + 1 + (cutD (fD fs) (some (q + 1)) none).length ≤ 16777216 := by omega
  have k4 : (fD fs).length + (cutD (fD fs) none (some 1)).length ≤ 16777216 := by omega
  have hcomp : ∀ (l : List Dat) (A B C E G H I J K L M N O P R : Sl), compL (compB (Phi tab fu (k + 6)) [16] (.bin .Add (.bin .Add (.sl (.var 1) .no (.yes (.var 3))) (.tup (.cons (.var 16) .nil))) (.sl (.var 1) (.yes (.bin .Add (.var 3) (.int 1))) .no)) (.var 16) .nil [A, .v (.tup (fD fs)), B, .v (.int q), C, E, G, H, I, J, K, L, M, N, O, P, .un, R]) l (cup a3 b3 rest) = .ok (l.map fun x => .tup (cutD (fD fs) none (some q) ++ [x] ++ cutD (fD fs) (some (q + 1)) none)) (cup a3 b3 rest) := fun l A B C E G H I J K L M N O P R => by
    refine compL_ids fun x _ => ?_
    simp [compB, k2, k2', k3, k3']
  have hrow : ∀ x, gd 3 x → gd 4 (.tup (cutD (fD fs) none (some q) ++ [x] ++ cutD (fD fs) (some (q + 1)) none)) := fun x hx => ((hD.cut.up.up.app (Row.one hx)).app hD.cut.up.up).tup (by decide)
  generalize hg : (fun x => Dat.tup (cutD (fD fs) none (some q) ++ [x] ++ cutD (fD fs) (some (q + 1)) none)) = g at hcomp
  have hrow' : ∀ x, gd 3 x → gd 6 (g x) := fun x hx => by rw [← hg]; exact gd_mono 5 _ (gd_mono 4 _ (hrow x hx))
  have gi : ∀ (n : Nat) (i : Int), gd n (.int i) := fun n i => by cases n <;> trivial
  have gb : ∀ (n : Nat) (i : Bool), gd n (.bl i) := fun n i => by cases n <;> trivial
  have gn : ∀ n : Nat, gd n .non := fun n => by cases n <;> trivial
  have gs : ∀ (n : Nat) (z : Str), (z.length ≤ 1000 ∧ z.cps.all (· < 0x110000) = true) → gd n (.str z) := fun n z h => by cases n <;> exact h
  have two : ∀ {x y : Dat}, gd 2 x → gd 2 y → gd 3 (.tup [x, y]) := fun h h' => ((Row.one h).app (Row.one h')).tup (by decide)
  have hvals : ∀ v ∈ [g (.tup [.str x, .int 0]), g (.tup [.str x, .int 13]), g (.tup [.str x, .int 12]), g (.tup [.str x, .bl true]), g (.tup [.str x, .non]), g (.tup [.str x]), g (.lst [.str x, .int d]), g (.tup [.str x, .int d, .int 1]), g (.tup [.str "", .int d]), g (.tup [.str "A", .int d]), g (.tup [.str "1a", .int d]), g (.tup [.str xa, .int d]), g (.tup [.str xz, .int d]), g (.tup [.non, .int d]), g (.tup [.tup [.str x], .int d]), g (.tup [.str "a b", .int d]), g (.tup [.int d, .str x]), g .non, .non, .tup [], .lst [], .lst (fD fs), .tup (fD fs).reverse, .tup (fD fs ++ cutD (fD fs) none (some 1)), .bl false], gd 6 v := by
    have hD5 : Row 5 8 (fD fs) := hD.up.up.up.up
    simp only [List.forall_mem_cons]
    exact ⟨hrow' _ (two (gxs 2) (gi 2 _)), hrow' _ (two (gxs 2) (gi 2 _)), hrow' _ (two (gxs 2) (gi 2 _)), hrow' _ (two (gxs 2) (gb 2 _)), hrow' _ (two (gxs 2) (gn 2)), hrow' _ ((Row.one (gxs 2)).tup (by decide)), hrow' _ (((Row.one (gxs 2)).app (Row.one (gi 2 d))).lst (by decide)), hrow' _ (((Row.one (gxs 2)).app ((Row.one (gi 2 d)).app (Row.one (gi 2 1)))).tup (by decide)), hrow' _ (two (gs 2 _ (by decide +kernel)) (gi 2 _)), hrow' _ (two (gs 2 _ (by decide +kernel)) (gi 2 _)), hrow' _ (two (gs 2 _ (by decide +kernel)) (gi 2 _)), hrow' _ (two (gs 2 _ gxa) (gi 2 _)), hrow' _ (two (gs 2 _ gxz) (gi 2 _)), hrow' _ (two (gn 2) (gi 2 _)), hrow' _ (two ((Row.one (gxs 1)).tup (by decide)) (gi 2 _)), hrow' _ (two (gs 2 _ (by decide +kernel)) (gi 2 _)), hrow' _ (two (gi 2 _) (gxs 2)), hrow' _ (gn 3), gn 6, show gd 6 (.tup []) from ⟨by simp, fun _ h => by cases h⟩, show gd 6 (.lst []) from ⟨by simp, fun _ h => by cases h⟩, hD5.lst (by decide), hD5.rev.tup (by decide), (hD5.app hD5.cut).tup (by decide), gb 6 _, fun _ h => by cases h⟩
  obtain ⟨u5, e5⟩ := odd_loop (fu := fu) (k := k + 2) (st := cup a3 b3 rest) (C := .v (.ref 0)) (A := .v (.tup (fD fs))) (B := .un) (s2 := t2) (s3 := .v (.int q)) (s4 := .v (.lst [.tup [.str x, .int 0], .tup [.str x, .int 13], .tup [.str x, .int 12], .tup [.str x, .bl true], .tup [.str x, .non], .tup [.str x], .lst [.str x, .int d], .tup [.str x, .int d, .int 1], .tup [.str "", .int d], .tup [.str "A", .int d], .tup [.str "1a", .int d], .tup [.str xa, .int d], .tup [.str xz, .int d], .tup [.non, .int d], .tup [.tup [.str x], .int d], .tup [.str "a b", .int d], .tup [.int d, .str x], .non])) (s6 := .v (.lst (sD (fs.map (·.1))))) (s7 := .v (.int (1 + r))) (s8 := .v (.int d)) (s9 := t9) (s10 := t10) (s11 := t11) (s12 := .v (.str x)) (s13 := t13) (s14 := t14) (s15 := .un) (s16 := .un) (s17 := .un) _ t5 hvals
  refine ⟨a3, b3, ?_⟩
  simp only [turnB] at e2
  simp only [Ph] at g1 g2
  clear hvals hrow hrow' hD gx gxs hmem hxd
  have hsum := hsm
  generalize (fs.map fun p => Dat.int (divG p)) = DL at *
  generalize fr (lowN (sumN fs)) = DD at *
  generalize (fs.map divG).sum = SS at *
  rw [phi_ap (fn := f__law_right) rfl rfl]
  simp [f__law_right, b__law_right, g1, g2, c1, sized_ok hsm, c1s, g3, g4, c2, sized_ok hsn, e1, el4]
  rw [e2]
  simp [-forL_cons, e3, ea, exa, exz, hcomp, k4]
  rw [e5]
  simp
end
end K80
end
-- M27
section
set_option maxRecDepth 100000
set_option maxHeartbeats 4000000
set_option linter.all false
set_option Elab.async false
namespace K80
open PySem Fw
section
variable {fu k : Nat} {rest : Store}
theorem s_cup (ns : List Int) (hl : ns.length ≤ 1000) : ∃ a b, Phi tab fu (k + 1) 27 [.scr ns] [] = .ok (.ref 0) (cup a b []) := by
  rw [phi_ap (fn := f__law_cup) rfl rfl]
  obtain ⟨c, hc⟩ : ∃ c, L2.atI (ns.map Dat.int ++ [.int 0]) 0 = some (.int c) := by
    cases ns with
    | nil => exact ⟨0, rfl⟩
    | cons n ns => exact ⟨n, by simp⟩
  have hlen : (ns.map Dat.int).length + 1 ≤ 16777216 := by simp; omega
  have hlen' : ns.length ≤ 16777215 := by omega
  generalize hv : (if c < 0 then -c else c) = v
  have p10 : opBin .Pow (.int 10) (.int 18) = some (.int (10 ^ 18)) := by rfl
  have d1 : opBin .FloorDiv (.int v) (.int 73) = some (.int (v.fdiv 73)) := div_ok (by decide) (by decide)
  have m1 : opBin .Mult (.int v) (.int 283) = some (.int (v * 283)) := mul_int (by decide)
  obtain ⟨r1, _, _⟩ := mod_pos (i := v * 283 + 3907) (m := 2077503167) (by decide)
  generalize (v * 283 + 3907).fmod 2077503167 = w at *
  generalize (10 : Int) ^ 18 = T at *
  by_cases hT : T ≤ v
  · refine ⟨v.fdiv 73, w + 167, ?_⟩
    simp [f__law_cup, b__law_cup, hlen', hc, hv, p10, d1, m1, r1, hT]
    rfl
  · refine ⟨0, w + 167, ?_⟩
    simp [f__law_cup, b__law_cup, hlen', hc, hv, p10, d1, m1, r1, hT]
    rfl
end
end K80
end
-- M28
section
set_option maxRecDepth 100000
set_option maxHeartbeats 4000000
set_option linter.all false
set_option Elab.async false
namespace K80
open PySem Fw
abbrev W : Nat → List Dat → M Dat := Phi tab 1000000 98
def oneD : Dat := .tup [.tup [.str "a", .int 2], .tup [.str "b", .int 4], .tup [.str "c", .int 4]]
def goodD : Dat := .tup [.tup [.str "a"], .tup [.str "b"], .tup [.str "a"], .tup [.str "c"]]
def l8 : List Str := ["a", "b", "c", "d", "e", "f", "g", "h"]
def eightD : Dat := .tup (l8.map fun z => .tup [.str z, .int 8])
def turn8D : Dat := .tup (l8.map fun z => .tup [.str z])
def nineD : Dat := .tup (l8.map fun z => .tup [.str z, .int (if z = "h" then 9 else 8)])
def toldA : Dat := .lst [.bl true, .bl false, .bl true, .bl false, .int 3, .non, .int 1, .tup [.int 1, .int 2, .int 0], .non, .tup [.int 1, .int 1], .tup [.int 11, .int 12]]
def toldB : Dat := .lst [.bl true, .bl true, .bl false, .bl false, .bl true, .bl false, .tup [.int 1, .int 1], .int 7, .int 8]
def segA : ISs := (.cons (.par (.cons (.var 11) (.cons (.var 12) .nil)) (.cons (.tup (.cons (.tup (.cons (.str "a") (.cons (.int 2) .nil))) (.cons (.tup (.cons (.str "b") (.cons (.int 4) .nil))) (.cons (.tup (.cons (.str "c") (.cons (.int 4) .nil))) .nil)))) (.cons (.tup (.cons (.tup (.cons (.str "a") .nil)) (.cons (.tup (.cons (.str "b") .nil)) (.cons (.tup (.cons (.str "a") .nil)) (.cons (.tup (.cons (.str "c") .nil)) .nil))))) .nil))) (.cons (.asg 1 (.lst (.cons (.call 23 (.cons (.var 11) (.cons (.int 1) (.cons (.var 12) .nil)))) (.cons (.call 23 (.cons (.var 11) (.cons (.int 1) (.cons (.sl (.var 12) .no (.yes (.int 2))) .nil)))) (.cons (.call 23 (.cons (.var 11) (.cons (.int 2) (.cons (.tup (.cons (.tup (.cons (.str "a") (.cons (.str "b") .nil))) (.cons (.tup (.cons (.str "a") (.cons (.str "c") .nil))) .nil))) .nil)))) (.cons (.call 23 (.cons (.var 11) (.cons (.int 1) (.cons (.tup (.cons (.tup (.cons (.str "a") (.cons (.str "b") .nil))) (.cons (.tup (.cons (.str "a") (.cons (.str "c") .nil))) .nil))) .nil)))) .nil)))))) (.cons (.asg 1 (.bin .Add (.var 1) (.lst (.cons (.call 25 (.cons (.var 11) (.cons (.int 1) (.cons (.var 12) (.cons (.str "c") .nil))))) (.cons (.call 25 (.cons (.var 11) (.cons (.int 1) (.cons (.sl (.var 12) .no (.yes (.int 2))) (.cons (.str "c") .nil))))) (.cons (.call 25 (.cons (.var 11) (.cons (.int 1) (.cons (.var 12) (.cons (.str "a") .nil))))) .nil)))))) (.cons (.asg 1 (.bin .Add (.var 1) (.lst (.cons (.call 26 (.cons (.var 11) (.cons (.int 1) (.cons (.tup (.cons (.int 0) (.cons (.int 0) (.cons (.int 0) .nil)))) (.cons (.var 12) .nil))))) (.cons (.call 26 (.cons (.var 11) (.cons (.int 1) (.cons (.tup (.cons (.int 1) (.cons (.int 2) (.cons (.int 3) .nil)))) (.cons (.var 12) .nil))))) (.cons (.call 21 (.cons (.var 11) .nil)) (.cons (.call 21 (.cons (.tup (.cons (.tup (.cons (.str "a") (.cons (.int 2) .nil))) (.cons (.tup (.cons (.str "b") (.cons (.int 3) .nil))) (.cons (.tup (.cons (.str "c") (.cons (.int 12) .nil))) .nil)))) .nil)) .nil))))))) (.cons (.ife (.not_ (.call 31 (.cons (.var 1) (.cons (.lst (.cons (.bl true) (.cons (.bl false) (.cons (.bl true) (.cons (.bl false) (.cons (.int 3) (.cons .non (.cons (.int 1) (.cons (.tup (.cons (.int 1) (.cons (.int 2) (.cons (.int 0) .nil)))) (.cons .non (.cons (.tup (.cons (.int 1) (.cons (.int 1) .nil))) (.cons (.tup (.cons (.int 11) (.cons (.int 12) .nil))) .nil)))))))))))) .nil)))) (.cons (.ret (.bl false)) .nil) .nil) (.cons (.asg 2 (.bi .tuple (.cons (.comp [16] (.tup (.cons (.var 16) (.cons (.int 8) .nil))) (.var 16) (.seq (.str "abcdefgh")) .nil) .nil))) (.cons (.asg 3 (.bi .tuple (.cons (.comp [16] (.tup (.cons (.var 16) .nil)) (.var 16) (.seq (.str "abcdefgh")) .nil) .nil))) (.cons (.asg 4 (.bi .tuple (.cons (.comp [16] (.tup (.cons (.var 16) (.cons (.ife (.cmp .Eq (.var 16) (.str "h")) (.int 9) (.int 8)) .nil))) (.var 16) (.seq (.str "abcdefgh")) .nil) .nil))) .nil))))))))
def segB : ISs := (.cons (.asg 1 (.lst (.cons (.call 23 (.cons (.var 2) (.cons (.int 1) (.cons (.var 3) .nil)))) (.cons (.call 23 (.cons (.var 2) (.cons (.int 1) (.cons (.bin .Add (.sl (.var 3) (.yes (.var 5)) .no) (.sl (.var 3) .no (.yes (.var 5)))) .nil)))) (.cons (.call 23 (.cons (.var 2) (.cons (.int 1) (.cons (.bin .Add (.var 3) (.tup (.cons (.tup .nil) .nil))) .nil)))) (.cons (.call 23 (.cons (.var 2) (.cons (.int 1) (.cons (.bin .Add (.sl (.var 3) .no (.yes (.var 5))) (.sl (.var 3) (.yes (.bin .Add (.var 5) (.int 1))) .no)) .nil)))) .nil)))))) (.cons (.asg 1 (.bin .Add (.bin .Add (.var 1) (.lst (.cons (.call 20 (.cons (.var 2) .nil)) (.cons (.call 20 (.cons (.bin .Add (.var 2) (.tup (.cons (.tup (.cons (.str "i") (.cons (.int 8) .nil))) .nil))) .nil)) (.cons (.call 21 (.cons (.var 2) .nil)) .nil))))) (.comp [16] (.call 25 (.cons (.var 4) (.cons (.int 1) (.cons (.bin .Add (.var 3) (.sl (.var 3) (.yes (.int 7)) .no)) (.cons (.var 16) .nil))))) (.var 16) (.seq (.str "ha")) .nil))) (.cons (.ife (.not_ (.call 31 (.cons (.var 1) (.cons (.lst (.cons (.bl true) (.cons (.bl true) (.cons (.bl false) (.cons (.bl false) (.cons (.bl true) (.cons (.bl false) (.cons (.tup (.cons (.int 1) (.cons (.int 1) .nil))) (.cons (.int 7) (.cons (.int 8) .nil)))))))))) .nil)))) (.cons (.ret (.bl false)) .nil) .nil) .nil)))
theorem runA {st : Store} {X : Sl} : exes W 1000000 segA [X, .un, .un, .un, .un, .un, .un, .un, .un, .un, .un, .un, .un, .un, .un, .un, .un, .un] st = .ok (.nx [X, .v toldA, .v eightD, .v turn8D, .v nineD, .un, .un, .un, .un, .un, .un, .v oneD, .v goodD, .un, .un, .un, .un, .un]) st := by kernel_rfl
theorem runB0 {st : Store} {X : Sl} : exes W 1000000 segB [X, .v toldA, .v eightD, .v turn8D, .v nineD, .v (.int 0), .un, .un, .un, .un, .un, .v oneD, .v goodD, .un, .un, .un, .un, .un] st = .ok (.nx [X, .v toldB, .v eightD, .v turn8D, .v nineD, .v (.int 0), .un, .un, .un, .un, .un, .v oneD, .v goodD, .un, .un, .un, .un, .un]) st := by kernel_rfl
theorem runB1 {st : Store} {X : Sl} : exes W 1000000 segB [X, .v toldA, .v eightD, .v turn8D, .v nineD, .v (.int 1), .un, .un, .un, .un, .un, .v oneD, .v goodD, .un, .un, .un, .un, .un] st = .ok (.nx [X, .v toldB, .v eightD, .v turn8D, .v nineD, .v (.int 1), .un, .un, .un, .un, .un, .v oneD, .v goodD, .un, .un, .un, .un, .un]) st := by kernel_rfl
theorem runB2 {st : Store} {X : Sl} : exes W 1000000 segB [X, .v toldA, .v eightD, .v turn8D, .v nineD, .v (.int 2), .un, .un, .un, .un, .un, .v oneD, .v goodD, .un, .un, .un, .un, .un] st = .ok (.nx [X, .v toldB, .v eightD, .v turn8D, .v nineD, .v (.int 2), .un, .un, .un, .un, .un, .v oneD, .v goodD, .un, .un, .un, .un, .un]) st := by kernel_rfl
theorem runB3 {st : Store} {X : Sl} : exes W 1000000 segB [X, .v toldA, .v eightD, .v turn8D, .v nineD, .v (.int 3), .un, .un, .un, .un, .un, .v oneD, .v goodD, .un, .un, .un, .un, .un] st = .ok (.nx [X, .v toldB, .v eightD, .v turn8D, .v nineD, .v (.int 3), .un, .un, .un, .un, .un, .v oneD, .v goodD, .un, .un, .un, .un, .un]) st := by kernel_rfl
theorem runB4 {st : Store} {X : Sl} : exes W 1000000 segB [X, .v toldA, .v eightD, .v turn8D, .v nineD, .v (.int 4), .un, .un, .un, .un, .un, .v oneD, .v goodD, .un, .un, .un, .un, .un] st = .ok (.nx [X, .v toldB, .v eightD, .v turn8D, .v nineD, .v (.int 4), .un, .un, .un, .un, .un, .v oneD, .v goodD, .un, .un, .un, .un, .un]) st := by kernel_rfl
theorem runB5 {st : Store} {X : Sl} : exes W 1000000 segB [X, .v toldA, .v eightD, .v turn8D, .v nineD, .v (.int 5), .un, .un, .un, .un, .un, .v oneD, .v goodD, .un, .un, .un, .un, .un] st = .ok (.nx [X, .v toldB, .v eightD, .v turn8D, .v nineD, .v (.int 5), .un, .un, .un, .un, .un, .v oneD, .v goodD, .un, .un, .un, .un, .un]) st := by kernel_rfl
theorem runB6 {st : Store} {X : Sl} : exes W 1000000 segB [X, .v toldA, .v eightD, .v turn8D, .v nineD, .v (.int 6), .un, .un, .un, .un, .un, .v oneD, .v goodD, .un, .un, .un, .un, .un] st = .ok (.nx [X, .v toldB, .v eightD, .v turn8D, .v nineD, .v (.int 6), .un, .un, .un, .un, .un, .v oneD, .v goodD, .un, .un, .un, .un, .un]) st := by kernel_rfl
end K80
end
-- M29
section
set_option maxRecDepth 100000
set_option maxHeartbeats 4000000
set_option linter.all false
set_option Elab.async false
namespace K80
open PySem Fw
section
variable {fu k : Nat}
theorem int3 {p q r : Int} {d : Dat} (h : d ∈ ([.int p, .int q, .int r] : List Dat)) : ∃ i, d = .int i ∧ (i = p ∨ i = q ∨ i = r) := by
  rcases List.mem_cons.mp h with rfl | h
  · exact ⟨p, rfl, .inl rfl⟩
  · rcases List.mem_cons.mp h with rfl | h
    · exact ⟨q, rfl, .inr (.inl rfl)⟩
    · rcases List.mem_cons.mp h with rfl | h
      · exact ⟨r, rfl, .inr (.inr rfl)⟩
      · cases h
theorem law_loop (hf : 1000000 ≤ fu) {A : Sl} : ∀ (l : List Dat) (a b : Int) (rest : Store) (s2 : Sl), ∃ a' b' rest' t2,
    forL (fun ρ => exes (Phi tab fu (k + 7)) fu (.cons (.ife (.not_ (.call 43 (.cons (.var 1) (.cons (.call 34 (.cons (.var 1) (.cons (.call 29 (.cons (.var 1) (.cons (.lst (.cons (.int 2) (.cons (.int 4) (.cons (.int 8) .nil)))) .nil))) (.cons (.call 29 (.cons (.var 1) (.cons (.lst (.cons (.int 3) (.cons (.int 6) (.cons (.int 12) .nil)))) .nil))) .nil)))) .nil)))) (.cons (.ret (.bl false)) .nil) .nil) .nil) ρ) (bindT (.var 2)) l [A, .v (.ref 0), s2] (cup a b rest) = .ok (.nx [A, .v (.ref 0), t2]) (cup a' b' rest')
  | [], a, b, rest, s2 => ⟨a, b, rest, s2, rfl⟩
  | d :: l, a, b, rest, s2 => by
    obtain ⟨a1, b1, d1, h1, e1⟩ := s_some (fu := fu) (k := k + 5) (a := a) (b := b) (rest := rest) (ds := [.int 2, .int 4, .int 8]) (by simp) (by decide)
    obtain ⟨i1, rfl, hi1⟩ := int3 h1
    obtain ⟨a2, b2, d2, h2, e2⟩ := s_some (fu := fu) (k := k + 5) (a := a1) (b := b1) (rest := rest) (ds := [.int 3, .int 6, .int 12]) (by simp) (by decide)
    obtain ⟨i2, rfl, hi2⟩ := int3 h2
    obtain ⟨a3, b3, fs, rest3, F, e3⟩ := s_fieldsG (fu := fu) (k := k + 2) (rest := rest) (mo := i1) (dm := i2) (by omega) (by omega) (by omega) (by omega) a2 b2
    obtain ⟨a4, b4, e4⟩ := s_right (fu := fu) (k := k) (rest := rest3) hf F a3 b3
    obtain ⟨a', b', rest', t2, e5⟩ := law_loop hf (A := A) l a4 b4 rest3 (.v d)
    refine ⟨a', b', rest', t2, ?_⟩
    rw [← e5]
    simp [e1, e2, e3, e4]
theorem law_of (hf : 1000000 ≤ fu) (hwr : Phi tab fu (k + 7) 45 [] [] = .ok (.bl true) []) (hw : ∀ a b rest, ∃ st, Phi tab fu (k + 7) 44 [.ref 0] (cup a b rest) = .ok (.bl true) st) (ns : List Int) (hl : ns.length ≤ 63) : ∃ st, Phi tab fu (k + 8) 46 [.scr ns] [] = .ok (.bl true) st := by
  obtain ⟨a, b, e1⟩ := s_cup (fu := fu) (k := k + 6) ns (by omega)
  obtain ⟨l3, el⟩ : ∃ l, range1Of (.int 3) = some l := ⟨_, rfl⟩
  obtain ⟨a1, b1, rest, t2, e2⟩ := law_loop (fu := fu) (k := k) hf (A := .v (.scr ns)) l3 a b [] .un
  obtain ⟨st, e3⟩ := hw a1 b1 rest
  refine ⟨st, ?_⟩
  rw [phi_ap (fn := f_law) rfl rfl]
  simp [f_law, b_law, hwr, e1, el]
  rw [e2]
  simp [e3]
end
end K80
end
-- M30
section
set_option maxRecDepth 100000
set_option maxHeartbeats 4000000
set_option linter.all false
set_option Elab.async false
namespace K80
open PySem Fw
def blk : List (List Str) := [["a"], ["a"], ["b"]]
def blks (n : Nat) : List (List Str) := (List.replicate n blk).flatten
def gapN (f : Nat) : List (List Str) := blks f ++ (([["a"], ["b"], ["b"], ["b"]] : List (List Str)) ++ blks (660 - f))
/-- of a run: the greatest so far stays 3 -/
def Keep3 (b : List Bool) : Prop := ∀ h : Int, h ≤ 3 → (runB 3 h b).1 = 3 ∧ (runB 3 h b).2 ≤ 3
theorem Keep3.app {b c : List Bool} (h : Keep3 b) (h' : Keep3 c) : Keep3 (b ++ c) := fun x hx => by
  obtain ⟨h1, h2⟩ := h x hx
  rw [runB_append, h1]
  exact h' _ h2
theorem keep_ttf : Keep3 [true, true, false] := fun h _ => by
  have e : runB 3 h [true, true, false] = (3, 1) := rfl
  rw [e]
  exact ⟨rfl, by decide⟩
theorem keep_nil : Keep3 [] := fun h hh => ⟨rfl, hh⟩
theorem keep_tfff : Keep3 [true, false, false, false] := fun h _ => by
  have e : runB 3 h [true, false, false, false] = (3, 3) := rfl
  rw [e]
  exact ⟨rfl, by decide⟩
theorem has_blks : ∀ n, hasN "a" (blks n) = (List.replicate n [true, true, false]).flatten
  | 0 => rfl
  | n + 1 => by
    have ih := has_blks n
    unfold blks at ih ⊢
    rw [List.replicate_succ, List.replicate_succ, List.flatten_cons, List.flatten_cons]
    show hasN "a" (blk ++ _) = _
    unfold hasN at ih ⊢
    rw [List.map_append, ih]
    rfl
theorem keep_blks : ∀ n, Keep3 (List.replicate n [true, true, false]).flatten
  | 0 => keep_nil
  | n + 1 => by
    rw [List.replicate_succ, List.flatten_cons]
    exact keep_ttf.app (keep_blks n)
theorem start_blks : ∀ (n : Nat) (m h : Int), (m = 0 ∨ m = 1) → ((runB m h (List.replicate n [true, true, false]).flatten).1 = 0 ∨ (runB m h (List.replicate n [true, true, false]).flatten).1 = 1)
  | 0, m, h, hm => hm
  | n + 1, m, h, hm => by
    rw [List.replicate_succ, List.flatten_cons, runB_append]
    have e : runB m h [true, true, false] = (1, 1) := by rcases hm with rfl | rfl <;> rfl
    rw [e]
    exact start_blks n 1 1 (.inr rfl)
theorem gap_long (f : Nat) : longN (hasN "a" (gapN f)) = some 3 := by
  have eb : hasN "a" (gapN f) = (List.replicate f [true, true, false]).flatten ++ ([true, false, false, false] ++ (List.replicate (660 - f) [true, true, false]).flatten) := by
    have h1 := has_blks f
    have h2 := has_blks (660 - f)
    unfold hasN at h1 h2 ⊢
    unfold gapN
    rw [List.map_append, List.map_append, h1, h2]
    rfl
  have hk : Keep3 (hasN "a" (gapN f)) := by rw [eb]; exact (keep_blks f).app (keep_tfff.app (keep_blks _))
  have hany : (hasN "a" (gapN f)).any id = true := by rw [eb]; simp
  unfold longN
  rw [if_pos hany]
  have first : (runB 0 0 (hasN "a" (gapN f))).1 = 3 ∧ (runB 0 0 (hasN "a" (gapN f))).2 ≤ 3 := by
    rw [eb, runB_append]
    have hs := start_blks f 0 0 (.inl rfl)
    generalize runB 0 0 (List.replicate f [true, true, false]).flatten = R at hs
    obtain ⟨m, h⟩ := R
    have e : runB m h ([true, false, false, false] ++ (List.replicate (660 - f) [true, true, false]).flatten) = runB 3 3 (List.replicate (660 - f) [true, true, false]).flatten := by
      rw [runB_append]
      have : runB m h [true, false, false, false] = (3, 3) := by
        have hs : m = 0 ∨ m = 1 := hs
        rcases hs with rfl | rfl <;> rfl
      rw [this]
    show (runB m h _).1 = 3 ∧ (runB m h _).2 ≤ 3
    rw [e]
    exact keep_blks _ 3 (by decide)
  rw [runB_append, first.1]
  exact congrArg some ((hk.app hk) _ first.2).1
end K80
end
-- M31
section
set_option maxRecDepth 100000
set_option maxHeartbeats 4000000
set_option linter.all false
set_option Elab.async false
namespace K80
open PySem Fw
theorem blks_len : ∀ n, (blks n).length = 3 * n
  | 0 => rfl
  | n + 1 => by
    have ih := blks_len n
    unfold blks at ih ⊢
    rw [List.replicate_succ, List.flatten_cons, List.length_append, ih]
    show 3 + 3 * n = 3 * (n + 1)
    omega
theorem blks_add (m n : Nat) : blks (m + n) = blks m ++ blks n := by
  unfold blks
  rw [← List.replicate_append_replicate, List.flatten_append]
theorem blks_cut {f : Nat} (h : f ≤ 660) {i : Int} (hi : i = 3 * (f : Int)) : cutD (dD (blks 660)) none (some i) = dD (blks f) ∧ cutD (dD (blks 660)) (some i) none = dD (blks (660 - f)) := by
  have e : blks 660 = blks f ++ blks (660 - f) := by rw [← blks_add]; congr 1; omega
  have en : i.toNat = (blks f).length := by rw [blks_len]; omega
  have ed : dD (blks 660) = dD (blks f) ++ dD (blks (660 - f)) := by rw [e]; unfold dD; rw [List.map_append]
  have el : (dD (blks f)).length = i.toNat := by rw [en]; simp [dD]
  constructor
  · rw [cut_take (by omega), ed, ← el, List.take_left]
  · rw [cut_drop (by omega), ed, ← el, List.drop_left]
end K80
end
-- M32
section
set_option maxRecDepth 100000
set_option maxHeartbeats 4000000
set_option linter.all false
set_option Elab.async false
namespace K80
open PySem Fw
def pairF : List (Str × Int) := [("a", 3), ("b", 12)]
theorem pair_ok : FOk pairF := ⟨by decide, by decide, by decide +kernel, by decide +kernel, by decide +kernel⟩
theorem day_a : DayOk (pairF.map (·.1)) 1 ["a"] := ⟨by decide +kernel, by decide +kernel, by decide⟩
theorem day_b : DayOk (pairF.map (·.1)) 1 ["b"] := ⟨by decide +kernel, by decide +kernel, by decide⟩
theorem day_0 : DayOk (pairF.map (·.1)) 1 [] := ⟨by decide +kernel, by decide +kernel, by decide⟩
theorem blks_mem {n : Nat} {zs : List Str} (h : zs ∈ blks n) : zs = (["a"] : List Str) ∨ zs = (["b"] : List Str) := by
  unfold blks at h
  obtain ⟨l, hl, hz⟩ := List.mem_flatten.mp h
  rw [(List.mem_replicate.mp hl).2] at hz
  simp only [blk, List.mem_cons, List.not_mem_nil, or_false] at hz
  rcases hz with h | h | h
  · exact .inl h
  · exact .inl h
  · exact .inr h
theorem gap_mem {f : Nat} {zs : List Str} (h : zs ∈ gapN f) : zs = (["a"] : List Str) ∨ zs = (["b"] : List Str) := by
  unfold gapN at h
  rcases List.mem_append.mp h with h | h
  · exact blks_mem h
  · rcases List.mem_append.mp h with h | h
    · simp only [List.mem_cons, List.not_mem_nil, or_false] at h
      rcases h with h | h | h | h
      · exact .inl h
      · exact .inr h
      · exact .inr h
      · exact .inr h
    · exact blks_mem h
theorem gap_days (f : Nat) : ∀ zs ∈ gapN f, DayOk (pairF.map (·.1)) 1 zs := fun zs h => by
  rcases gap_mem h with rfl | rfl
  · exact day_a
  · exact day_b
theorem days_gd {dss : List (List Str)} (h : ∀ zs ∈ dss, zs = (["a"] : List Str) ∨ zs = (["b"] : List Str) ∨ zs = []) (hl : dss.length ≤ 5000) : gd (1 + 2) (.tup (dD dss)) := by
  refine ⟨by simp [dD]; omega, fun d hd => ?_⟩
  obtain ⟨zs, hz, rfl⟩ := List.mem_map.mp hd
  rcases h zs hz with rfl | rfl | rfl
  · exact ⟨by decide, fun x hx => by rw [List.mem_singleton.mp hx]; exact ⟨by decide +kernel, by decide +kernel⟩⟩
  · exact ⟨by decide, fun x hx => by rw [List.mem_singleton.mp hx]; exact ⟨by decide +kernel, by decide +kernel⟩⟩
  · exact ⟨by decide, fun x hx => by cases hx⟩
end K80
end
-- M33
section
set_option maxRecDepth 100000
set_option maxHeartbeats 4000000
set_option linter.all false
set_option Elab.async false
namespace K80
open PySem Fw
theorem no_more (q i : Nat) : posF i (List.replicate q false) = [] := any_false_pos _ i (by simp)
theorem wait_one (p q : Nat) : waitN (List.replicate p false ++ true :: List.replicate q false) = some ((p : Int) + q) := by
  unfold waitN
  rw [posN_eq, posF_lead, no_more]
  show some (maxI _ []) = _
  have e : (((0 + p : Nat) : Int) + ((List.replicate p false ++ true :: List.replicate q false).length : Int) - ((0 + p : Nat) : Int) - 1) = (p : Int) + q := by
    simp
    omega
  exact congrArg some e
theorem wait_two (p q s : Nat) : waitN (List.replicate p false ++ true :: (List.replicate q false ++ true :: List.replicate s false)) = some (max (q : Int) ((p : Int) + s)) := by
  unfold waitN
  rw [posN_eq, posF_lead, posF_lead, no_more]
  have hl : ((List.replicate p false ++ true :: (List.replicate q false ++ true :: List.replicate s false)).length : Int) = p + q + s + 2 := by simp; omega
  rw [hl]
  show some (maxI (((0 + p + 1 + q : Nat) : Int) - ((0 + p : Nat) : Int) - 1) [((0 + p : Nat) : Int) + ((p : Int) + q + s + 2) - ((0 + p + 1 + q : Nat) : Int) - 1]) = _
  congr 1
  show (if (((0 + p + 1 + q : Nat) : Int) - ((0 + p : Nat) : Int) - 1) < ((0 + p : Nat) : Int) + ((p : Int) + q + s + 2) - ((0 + p + 1 + q : Nat) : Int) - 1 then _ else _) = _
  split <;> omega
end K80
end
-- M34
section
set_option maxRecDepth 100000
set_option maxHeartbeats 4000000
set_option linter.all false
set_option Elab.async false
namespace K80
open PySem Fw
def onceN (n p : Nat) : List (List Str) := List.replicate p ([] : List Str) ++ ([("b" : Str)] : List Str) :: List.replicate (n - 1 - p) []
theorem range_once : ∀ (n s p : Nat), s ≤ p → p < s + n → (List.range' s n).map (fun i => if i = p then ([("b" : Str)] : List Str) else []) = List.replicate (p - s) ([] : List Str) ++ ([("b" : Str)] : List Str) :: List.replicate (n - 1 - (p - s)) []
  | 0, s, p, h1, h2 => by omega
  | n + 1, s, p, h1, h2 => by
    rw [List.range'_succ, List.map_cons]
    by_cases h : s = p
    · subst h
      have z : (List.range' (s + 1) n).map (fun i => if i = s then ([("b" : Str)] : List Str) else []) = List.replicate n [] := by
        rw [List.eq_replicate_iff]
        refine ⟨by simp, fun x hx => ?_⟩
        obtain ⟨i, hi, e⟩ := List.mem_map.mp hx
        have := (List.mem_range'_1.mp hi).1
        rw [if_neg (by omega)] at e
        exact e.symm
      rw [if_pos rfl, z]
      simp
    · rw [if_neg h, range_once n (s + 1) p (by omega) (by omega)]
      have e1 : p - s = (p - (s + 1)) + 1 := by omega
      have e2 : n + 1 - 1 - (p - s) = n - 1 - (p - (s + 1)) := by omega
      rw [e2, e1, List.replicate_succ]
      rfl
end K80
end
-- M35
section
set_option maxRecDepth 100000
set_option maxHeartbeats 4000000
set_option linter.all false
set_option Elab.async false
namespace K80
open PySem Fw
def appS : ISs → ISs → ISs
  | .nil, b => b
  | .cons s r, b => .cons s (appS r b)
  | .frz i r, b => .frz i (appS r b)
theorem x_appS {Φ : Nat → List Dat → M Dat} {fu : Nat} : ∀ (a b : ISs) (ρ : Fw.Env) (st : Store), exes Φ fu (appS a b) ρ st = (exes Φ fu a ρ st).bd fun f s => f.k (exes Φ fu b) s
  | .nil, b, ρ, st => rfl
  | .cons s r, b, ρ, st => by
    show exes Φ fu (.cons s (appS r b)) ρ st = _
    rw [x_cons, x_cons]
    cases exe Φ fu s ρ st with
    | err => rfl
    | exc x s => rfl
    | ok f s' =>
      cases f with
      | nx ρ' => exact x_appS r b ρ' s'
      | ret d => rfl
      | brk ρ' => rfl
      | cont ρ' => rfl
  | .frz i r, b, ρ, st => by
    show (match ρ[i]? with
      | some (.o ds) => exes Φ fu (appS r b) (ρ.set i (.v (.lst ds)))
      | _ => merr : M Fl) st = _
    show _ = Res.bd ((match ρ[i]? with
      | some (.o ds) => exes Φ fu r (ρ.set i (.v (.lst ds)))
      | _ => merr : M Fl) st) _
    cases ρ[i]? with
    | none => rfl
    | some sl => cases sl with
      | un => rfl
      | v d => rfl
      | o ds => exact x_appS r b _ st
def s8 : IS := (.asg 5 (.call 28 (.cons (.var 0) (.cons (.int 7) .nil))))
def s12 : IS := (.par (.cons (.var 13) (.cons (.var 14) .nil)) (.cons (.tup (.cons (.tup (.cons (.str "a") (.cons (.int 3) .nil))) (.cons (.tup (.cons (.str "b") (.cons (.int 12) .nil))) .nil))) (.cons (.call 28 (.cons (.var 0) (.cons (.int 600) .nil))) .nil)))
def s13 : IS := (.asg 6 (.bin .Mult (.tup (.cons (.tup (.cons (.str "a") .nil)) (.cons (.tup (.cons (.str "a") .nil)) (.cons (.tup (.cons (.str "b") .nil)) .nil)))) (.int 660)))
def s14 : IS := (.asg 7 (.bin .Add (.bin .Add (.sl (.var 6) .no (.yes (.bin .Mult (.int 3) (.var 14)))) (.tup (.cons (.tup (.cons (.str "a") .nil)) (.cons (.tup (.cons (.str "b") .nil)) (.cons (.tup (.cons (.str "b") .nil)) (.cons (.tup (.cons (.str "b") .nil)) .nil)))))) (.sl (.var 6) (.yes (.bin .Mult (.int 3) (.var 14))) .no)))
def s15 : IS := (.asg 1 (.lst (.cons (.call 23 (.cons (.var 13) (.cons (.int 1) (.cons (.var 6) .nil)))) (.cons (.call 23 (.cons (.var 13) (.cons (.int 1) (.cons (.var 7) .nil)))) (.cons (.call 25 (.cons (.var 13) (.cons (.int 1) (.cons (.var 7) (.cons (.str "a") .nil))))) .nil)))))
def s19 : IS := (.unp (.cons (.var 11) (.cons (.var 15) .nil)) (.bi .sorted (.cons (.lst (.cons (.call 28 (.cons (.var 0) (.cons (.int 2000) .nil))) (.cons (.call 28 (.cons (.var 0) (.cons (.int 2000) .nil))) .nil))) .nil)))
def s20 : IS := (.asg 8 (.bi .tuple (.cons (.comp [17] (.ife (.cmp .Eq (.var 17) (.var 11)) (.tup (.cons (.str "b") .nil)) (.tup .nil)) (.var 17) (.range1 (.int 2000)) .nil) .nil)))
def s21 : IS := (.asg 9 (.bin .Add (.bin .Add (.sl (.var 8) .no (.yes (.var 15))) (.tup (.cons (.tup (.cons (.str "b") .nil)) .nil))) (.sl (.var 8) (.yes (.bin .Add (.var 15) (.int 1))) .no)))
def s22 : IS := (.asg 10 (.bin .Add (.var 6) (.bin .Mult (.tup (.cons (.tup (.cons (.str "a") .nil)) .nil)) (.int 11))))
def s23 : IS := (.asg 1 (.lst (.cons (.call 25 (.cons (.var 13) (.cons (.int 1) (.cons (.var 8) (.cons (.str "b") .nil))))) (.cons (.call 25 (.cons (.var 13) (.cons (.int 1) (.cons (.var 9) (.cons (.str "b") .nil))))) (.cons (.call 25 (.cons (.var 13) (.cons (.int 1) (.cons (.var 8) (.cons (.str "a") .nil))))) .nil)))))
def s24 : IS := (.asg 1 (.bin .Add (.var 1) (.lst (.cons (.call 26 (.cons (.var 13) (.cons (.int 1) (.cons (.tup (.cons (.int 0) (.cons (.int 0) .nil))) (.cons (.var 10) .nil))))) (.cons (.call 26 (.cons (.var 13) (.cons (.int 1) (.cons (.tup (.cons (.int 0) (.cons (.int 0) .nil))) (.cons (.bin .Add (.var 10) (.tup (.cons (.tup (.cons (.str "a") .nil)) .nil))) .nil))))) .nil)))))
def s25 : IS := (.ret (.call 31 (.cons (.var 1) (.cons (.lst (.cons (.int 1999) (.cons (.bin .Sub (.bi .max (.cons (.bin .Sub (.var 15) (.var 11)) (.cons (.bin .Add (.bin .Sub (.int 2000) (.var 15)) (.var 11)) .nil))) (.int 1)) (.cons .non (.cons (.tup (.cons (.int 0) (.cons (.int 11) .nil))) (.cons .non .nil)))))) .nil))))
def segD : ISs := (.cons (.asg 1 (.bin .Add (.var 1) (.comp [10] (.call 23 (.cons (.var 13) (.cons (.int 1) (.cons (.bin .Add (.var 6) (.bin .Mult (.tup (.cons (.tup (.cons (.str "b") .nil)) .nil)) (.var 10))) .nil)))) (.var 10) (.seq (.tup (.cons (.int 1) (.cons (.int 2) .nil)))) .nil))) (.cons (.asg 1 (.bin .Add (.var 1) (.lst (.cons (.call 22 (.cons (.var 13) (.cons (.int 1) (.cons (.bin .Add (.var 6) (.bin .Mult (.tup (.cons (.tup (.cons (.str "a") .nil)) .nil)) (.int 20))) .nil)))) (.cons (.call 22 (.cons (.var 13) (.cons (.int 1) (.cons (.bin .Add (.var 6) (.bin .Mult (.tup (.cons (.tup (.cons (.str "a") .nil)) .nil)) (.int 21))) .nil)))) (.cons (.call 23 (.cons (.var 13) (.cons (.int 1) (.cons (.bin .Add (.bin .Add (.tup (.cons (.tup (.cons (.str "b") .nil)) .nil)) (.var 6)) (.tup (.cons (.tup (.cons (.str "b") .nil)) .nil))) .nil)))) .nil)))))) (.cons (.ife (.not_ (.call 31 (.cons (.var 1) (.cons (.lst (.cons (.bl true) (.cons (.bl false) (.cons (.int 3) (.cons (.bl true) (.cons (.bl false) (.cons (.bl true) (.cons (.bl false) (.cons (.bl false) .nil))))))))) .nil)))) (.cons (.ret (.bl false)) .nil) .nil) .nil)))
theorem cut_all : b__law_written = appS segA (.cons s8 (appS segB (.cons s12 (.cons s13 (.cons s14 (.cons s15 (appS segD (.cons s19 (.cons s20 (.cons s21 (.cons s22 (.cons s23 (.cons s24 (.cons s25 .nil)))))))))))))) := by kernel_rfl
theorem runB_any {st : Store} {X : Sl} {r : Int} (h0 : 0 ≤ r) (h7 : r < 7) : exes W 1000000 segB [X, .v toldA, .v eightD, .v turn8D, .v nineD, .v (.int r), .un, .un, .un, .un, .un, .v oneD, .v goodD, .un, .un, .un, .un, .un] st = .ok (.nx [X, .v toldB, .v eightD, .v turn8D, .v nineD, .v (.int r), .un, .un, .un, .un, .un, .v oneD, .v goodD, .un, .un, .un, .un, .un]) st := by
  have h : r = 0 ∨ r = 1 ∨ r = 2 ∨ r = 3 ∨ r = 4 ∨ r = 5 ∨ r = 6 := by omega
  rcases h with rfl | rfl | rfl | rfl | rfl | rfl | rfl
  · exact runB0
  · exact runB1
  · exact runB2
  · exact runB3
  · exact runB4
  · exact runB5
  · exact runB6
def pairD : Dat := .tup (fD pairF)
def longD : Dat := .tup (dD (blks 660))
def manyN : List (List Str) := blks 660 ++ List.replicate 11 (["a"] : List Str)
def l1 : List (List Str) := blks 660 ++ List.replicate 1 (["b"] : List Str)
def l2 : List (List Str) := blks 660 ++ List.replicate 2 (["b"] : List Str)
def l20 : List (List Str) := blks 660 ++ List.replicate 20 (["a"] : List Str)
def l21 : List (List Str) := blks 660 ++ List.replicate 21 (["a"] : List Str)
def lbb : List (List Str) := [(["b"] : List Str)] ++ blks 660 ++ [(["b"] : List Str)]
theorem ab_mem {dss : List (List Str)} (h : dss.all (fun z => decide (z = (["a"] : List Str)) || decide (z = (["b"] : List Str))) = true) (hl : dss.length ≤ 5000) : gd (1 + 2) (.tup (dD dss)) := days_gd (fun zs hz => by
  have := List.all_eq_true.mp h zs hz
  rw [Bool.or_eq_true] at this
  rcases this with q | q
  · exact .inl (of_decide_eq_true q)
  · exact .inr (.inl (of_decide_eq_true q))) hl
theorem good_of {dss : List (List Str)} {st : Store} {b : Bool} (h : dss.all (fun z => decide (z = (["a"] : List Str)) || decide (z = (["b"] : List Str))) = true) (hl : dss.length ≤ 5000) (e : fitsGoodN pairF 1 (.tup (dD dss)) = b) : W 23 [.tup (fD pairF), .int 1, .tup (dD dss)] st = .ok (.bl b) st := by
  have := s_is_good (fu := 1000000) (k := 92) (st := st) pair_ok (many := 1) (by decide) (by decide) (ab_mem h hl)
  rw [e] at this
  exact this
theorem round_of' {dss : List (List Str)} {st : Store} {b : Bool} (h : dss.all (fun z => decide (z = (["a"] : List Str)) || decide (z = (["b"] : List Str))) = true) (hl : dss.length ≤ 5000) (e : fitsRoundN (pairF.map (·.1)) 1 (.tup (dD dss)) = b) : W 22 [.tup (fD pairF), .int 1, .tup (dD dss)] st = .ok (.bl b) st := by
  have := s_is_round (fu := 1000000) (k := 92) (st := st) pair_ok (many := 1) (by decide) (by decide) (ab_mem h hl)
  rw [e] at this
  exact this
section
variable {st : Store} {a b : Int} {rest : Store} {X0 X1 X2 X3 X4 X5 X6 X7 X8 X9 X10 X11 X12 X13 X14 X15 X16 X17 : Sl}
theorem long_mul : opBin .Mult (.tup [.tup [.str "a"], .tup [.str "a"], .tup [.str "b"]]) (.int 660) = some longD := by kernel_rfl
theorem run13 : exe W 1000000 s13 [X0, X1, X2, X3, X4, X5, X6, X7, X8, X9, X10, X11, X12, X13, X14, X15, X16, X17] st = .ok (.nx [X0, X1, X2, X3, X4, X5, .v longD, X7, X8, X9, X10, X11, X12, X13, X14, X15, X16, X17]) st := by kernel_rfl
theorem run22 : exe W 1000000 s22 [X0, X1, X2, X3, X4, X5, .v longD, X7, X8, X9, X10, X11, X12, X13, X14, X15, X16, X17] st = .ok (.nx [X0, X1, X2, X3, X4, X5, .v longD, X7, X8, X9, .v (.tup (dD manyN)), X11, X12, X13, X14, X15, X16, X17]) st := by kernel_rfl
theorem long_good : W 23 [pairD, .int 1, longD] st = .ok (.bl true) st := good_of (by decide +kernel) (by decide +kernel) (by decide +kernel)
theorem l1_good : W 23 [pairD, .int 1, .tup (dD l1)] st = .ok (.bl true) st := good_of (by decide +kernel) (by decide +kernel) (by decide +kernel)
theorem l2_good : W 23 [pairD, .int 1, .tup (dD l2)] st = .ok (.bl false) st := good_of (by decide +kernel) (by decide +kernel) (by decide +kernel)
theorem l20_round : W 22 [pairD, .int 1, .tup (dD l20)] st = .ok (.bl true) st := round_of' (by decide +kernel) (by decide +kernel) (by decide +kernel)
theorem l21_round : W 22 [pairD, .int 1, .tup (dD l21)] st = .ok (.bl false) st := round_of' (by decide +kernel) (by decide +kernel) (by decide +kernel)
theorem lbb_good : W 23 [pairD, .int 1, .tup (dD lbb)] st = .ok (.bl false) st := good_of (by decide +kernel) (by decide +kernel) (by decide +kernel)
theorem long_len : (dD (blks 660)).length = 1980 := by decide +kernel
theorem l1_eq : dD (blks 660) ++ [.tup [.str "b"]] = dD l1 := by unfold dD l1; rw [List.map_append]; rfl
theorem l2_eq : dD (blks 660) ++ [.tup [.str "b"], .tup [.str "b"]] = dD l2 := by unfold dD l2; rw [List.map_append]; rfl
theorem l20_eq : dD (blks 660) ++ List.replicate 20 (.tup [.str "a"]) = dD l20 := by unfold dD l20; rw [List.map_append, List.map_replicate]; rfl
theorem l21_eq : dD (blks 660) ++ List.replicate 21 (.tup [.str "a"]) = dD l21 := by unfold dD l21; rw [List.map_append, List.map_replicate]; rfl
theorem lbb_eq : .tup [.str "b"] :: (dD (blks 660) ++ [.tup [.str "b"]]) = dD lbb := by unfold dD lbb; rw [List.map_append, List.map_append]; rfl
def toldD : Dat := .lst [.bl true, .bl false, .int 3, .bl true, .bl false, .bl true, .bl false, .bl false]
theorem runD_gen {P : Dat} {L L1 L2 L3 L4 L5 R3 R4 : List Dat} (g1 : W 23 [P, .int 1, .tup L1] st = .ok (.bl true) st) (g2 : W 23 [P, .int 1, .tup L2] st = .ok (.bl false) st)
    (g3 : W 22 [P, .int 1, .tup L3] st = .ok (.bl true) st) (g4 : W 22 [P, .int 1, .tup L4] st = .ok (.bl false) st) (g5 : W 23 [P, .int 1, .tup L5] st = .ok (.bl false) st)
    (e1 : L ++ [.tup [.str "b"]] = L1) (e2 : L ++ [.tup [.str "b"], .tup [.str "b"]] = L2) (e3 : L ++ R3 = L3) (e4 : L ++ R4 = L4) (e5 : .tup [.str "b"] :: (L ++ [.tup [.str "b"]]) = L5) (el : L.length = 1980)
    (n3 : R3.length = 20) (n4 : R4.length = 21)
    (m1 : opBin .Mult (.tup [.tup [.str "b"]]) (.int 1) = some (.tup [.tup [.str "b"]])) (m2 : opBin .Mult (.tup [.tup [.str "b"]]) (.int 2) = some (.tup [.tup [.str "b"], .tup [.str "b"]]))
    (m3 : opBin .Mult (.tup [.tup [.str "a"]]) (.int 20) = some (.tup R3)) (m4 : opBin .Mult (.tup [.tup [.str "a"]]) (.int 21) = some (.tup R4))
    (lk : W 31 [.lst [.bl true, .bl false, .int 3, .bl true, .bl false, .bl true, .bl false, .bl false], .lst [.bl true, .bl false, .int 3, .bl true, .bl false, .bl true, .bl false, .bl false]] st = .ok (.bl true) st) :
    exes W 1000000 segD [X0, .v (.lst [.bl true, .bl false, .int 3]), X2, X3, X4, X5, .v (.tup L), X7, X8, X9, X10, X11, X12, .v P, X14, X15, X16, X17] st = .ok (.nx [X0, .v (.lst [.bl true, .bl false, .int 3, .bl true, .bl false, .bl true, .bl false, .bl false]), X2, X3, X4, X5, .v (.tup L), X7, X8, X9, X10, X11, X12, .v P, X14, X15, X16, X17]) st := by
  rw [e1] at e5
  simp [segD, compL, compB, mbind_ap, mpure_ap, g1, g2, g3, g4, g5, e1, e2, e3, e4, e5, el, m1, m2, m3, m4, n3, n4, lk]
theorem runD : exes W 1000000 segD [X0, .v (.lst [.bl true, .bl false, .int 3]), X2, X3, X4, X5, .v longD, X7, X8, X9, X10, X11, X12, .v pairD, X14, X15, X16, X17] st = .ok (.nx [X0, .v toldD, X2, X3, X4, X5, .v longD, X7, X8, X9, X10, X11, X12, .v pairD, X14, X15, X16, X17]) st :=
  runD_gen (L := dD (blks 660)) l1_good l2_good l20_round l21_round lbb_good l1_eq l2_eq l20_eq l21_eq lbb_eq long_len List.length_replicate List.length_replicate (by kernel_rfl) (by kernel_rfl) (by kernel_rfl) (by kernel_rfl) (by kernel_rfl)
theorem run24 {p q r : Dat} : exe W 1000000 s24 [X0, .v (.lst [p, q, r]), X2, X3, X4, X5, X6, X7, X8, X9, .v (.tup (dD manyN)), X11, X12, .v pairD, X14, X15, X16, X17] st = .ok (.nx [X0, .v (.lst [p, q, r, .tup [.int 0, .int 11], .non]), X2, X3, X4, X5, X6, X7, X8, X9, .v (.tup (dD manyN)), X11, X12, .v pairD, X14, X15, X16, X17]) st := by kernel_rfl
/-! the gap -/
theorem gap_len {f : Nat} (h : f ≤ 660) : (gapN f).length = 1984 := by
  unfold gapN
  rw [List.length_append, List.length_append, blks_len, blks_len]
  show 3 * f + (4 + 3 * (660 - f)) = 1984
  omega
theorem gap_gd {f : Nat} (h : f ≤ 660) : gd (1 + 2) (.tup (dD (gapN f))) := days_gd (fun zs hz => (gap_mem hz).elim .inl fun q => .inr (.inl q)) (by rw [gap_len h]; omega)
theorem gap_fits {f : Nat} (h : f ≤ 660) : fitsRoundN (pairF.map (·.1)) 1 (.tup (dD (gapN f))) = true := round_fits (gap_days f) (by rw [gap_len h]; omega) (by rw [gap_len h]; omega)
theorem gap_wait {f : Nat} (h : f ≤ 660) : W 25 [pairD, .int 1, .tup (dD (gapN f)), .str "a"] st = .ok (.int 3) st := by
  have e := s_longest_wait (fu := 1000000) (k := 92) (st := st) pair_ok (many := 1) (by decide) (by decide) (gap_gd h) (gap_fits h) (x := "a") (by decide +kernel)
  rw [dssN_dD, wait_long, gap_long] at e
  exact e
theorem gap_good {f : Nat} (h : f ≤ 660) : W 23 [pairD, .int 1, .tup (dD (gapN f))] st = .ok (.bl false) st := by
  have e := s_is_good (fu := 1000000) (k := 92) (st := st) pair_ok (many := 1) (by decide) (by decide) (gap_gd h)
  have n : fitsGoodN pairF 1 (.tup (dD (gapN f))) = false := by
    unfold fitsGoodN
    rw [gap_fits h, dssN_dD]
    show (true && ((match waitN (hasN "a" (gapN f)) with
      | none => false
      | some w => decide (w < 3)) && _)) = false
    rw [wait_long, gap_long]
    rfl
  rw [n] at e
  exact e
theorem run14_gen {fi : Int} {L A B G : List Dat} (m1 : opBin .Mult (.int 3) (.int fi) = some (.int (3 * fi))) (c1 : cutD L none (some (3 * fi)) = A) (c2 : cutD L (some (3 * fi)) none = B)
    (e1 : A.length + 4 ≤ 16777216) (e1' : A.length ≤ 16777212) (e2 : A.length + 4 + B.length ≤ 16777216) (e2' : A.length + (B.length + 4) ≤ 16777216) (e2'' : A.length + (4 + B.length) ≤ 16777216)
    (eg : A ++ (.tup [.str "a"] :: .tup [.str "b"] :: .tup [.str "b"] :: .tup [.str "b"] :: B) = G) :
    exe W 1000000 s14 [X0, X1, X2, X3, X4, X5, .v (.tup L), X7, X8, X9, X10, X11, X12, X13, .v (.int fi), X15, X16, X17] st = .ok (.nx [X0, X1, X2, X3, X4, X5, .v (.tup L), .v (.tup G), X8, X9, X10, X11, X12, X13, .v (.int fi), X15, X16, X17]) st := by
  simp [s14, m1, c1, c2, e1, e2, e1', e2', e2'', eg]
theorem run14 {f : Nat} (h : f ≤ 600) {fi : Int} (hf : fi = (f : Int)) : exe W 1000000 s14 [X0, X1, X2, X3, X4, X5, .v longD, X7, X8, X9, X10, X11, X12, X13, .v (.int fi), X15, X16, X17] st = .ok (.nx [X0, X1, X2, X3, X4, X5, .v longD, .v (.tup (dD (gapN f))), X8, X9, X10, X11, X12, X13, .v (.int fi), X15, X16, X17]) st := by
  have m1 : opBin .Mult (.int 3) (.int fi) = some (.int (3 * fi)) := mul_int (by omega)
  obtain ⟨c1, c2⟩ := blks_cut (f := f) (by omega) (i := 3 * fi) (by omega)
  have l1 : (dD (blks f)).length = 3 * f := by unfold dD; rw [List.length_map, blks_len]
  have l2 : (dD (blks (660 - f))).length = 3 * (660 - f) := by unfold dD; rw [List.length_map, blks_len]
  have e1 : (dD (blks f)).length + 4 ≤ 16777216 := by omega
  have e1' : (dD (blks f)).length ≤ 16777212 := by omega
  have e2 : (dD (blks f)).length + 4 + (dD (blks (660 - f))).length ≤ 16777216 := by omega
  have e2' : (dD (blks f)).length + ((dD (blks (660 - f))).length + 4) ≤ 16777216 := by omega
  have e2'' : (dD (blks f)).length + (4 + (dD (blks (660 - f))).length) ≤ 16777216 := by omega
  have eg : dD (blks f) ++ (.tup [.str "a"] :: .tup [.str "b"] :: .tup [.str "b"] :: .tup [.str "b"] :: dD (blks (660 - f))) = dD (gapN f) := by
    unfold gapN dD
    rw [List.map_append, List.map_append]
    rfl
  exact run14_gen m1 c1 c2 e1 e1' e2 e2' e2'' eg
theorem run15_gen {L P : Dat} {G : List Dat} (g1 : W 23 [P, .int 1, L] st = .ok (.bl true) st) (g2 : W 23 [P, .int 1, .tup G] st = .ok (.bl false) st) (g3 : W 25 [P, .int 1, .tup G, .str "a"] st = .ok (.int 3) st) :
    exe W 1000000 s15 [X0, X1, X2, X3, X4, X5, .v L, .v (.tup G), X8, X9, X10, X11, X12, .v P, X14, X15, X16, X17] st = .ok (.nx [X0, .v (.lst [.bl true, .bl false, .int 3]), X2, X3, X4, X5, .v L, .v (.tup G), X8, X9, X10, X11, X12, .v P, X14, X15, X16, X17]) st := by
  simp [s15, g1, g2, g3]
theorem run15 {f : Nat} (h : f ≤ 600) : exe W 1000000 s15 [X0, X1, X2, X3, X4, X5, .v longD, .v (.tup (dD (gapN f))), X8, X9, X10, X11, X12, .v pairD, X14, X15, X16, X17] st = .ok (.nx [X0, .v (.lst [.bl true, .bl false, .int 3]), X2, X3, X4, X5, .v longD, .v (.tup (dD (gapN f))), X8, X9, X10, X11, X12, .v pairD, X14, X15, X16, X17]) st := by
  have g1 := long_good (st := st)
  have g2 := gap_good (st := st) (f := f) (by omega)
  have g3 := gap_wait (st := st) (f := f) (by omega)
  exact run15_gen g1 g2 g3
end
end K80
end
-- M36
section
set_option maxRecDepth 100000
set_option maxHeartbeats 4000000
set_option linter.all false
set_option Elab.async false
namespace K80
open PySem Fw
theorem range_nat (n : Nat) (h : n ≤ 1000000) : range1Of (.int (n : Nat)) = some ((List.range n).map fun i => Dat.int (i : Nat)) := by
  show (if okR (n : Int) then some (rangeD 0 (n : Int).toNat) else none) = _
  rw [if_pos (by unfold okR; exact decide_eq_true (by omega))]
  simp [rangeD]
theorem once_mem {n p : Nat} {zs : List Str} (h : zs ∈ onceN n p) : zs = (["b"] : List Str) ∨ zs = [] := by
  unfold onceN at h
  rcases List.mem_append.mp h with h | h
  · exact .inr (List.mem_replicate.mp h).2
  · rcases List.mem_cons.mp h with h | h
    · exact .inl h
    · exact .inr (List.mem_replicate.mp h).2
theorem once_len {n p : Nat} (h : p < n) : (onceN n p).length = n := by unfold onceN; simp; omega
def twiceN (n p t : Nat) : List (List Str) := (onceN n p).take t ++ (["b"] : List Str) :: (onceN n p).drop (t + 1)
theorem twice_mem {n p t : Nat} {zs : List Str} (h : zs ∈ twiceN n p t) : zs = (["b"] : List Str) ∨ zs = [] := by
  unfold twiceN at h
  rcases List.mem_append.mp h with h | h
  · exact once_mem (List.mem_of_mem_take h)
  · rcases List.mem_cons.mp h with h | h
    · exact .inl h
    · exact once_mem (List.mem_of_mem_drop h)
theorem twice_len {n p t : Nat} (h : p < n) (ht : t < n) : (twiceN n p t).length = n := by
  unfold twiceN
  rw [List.length_append, List.length_cons, List.length_take, List.length_drop, once_len h]
  omega
theorem has_once {n p : Nat} : hasN "b" (onceN n p) = List.replicate p false ++ true :: List.replicate (n - 1 - p) false := by
  unfold hasN onceN
  rw [List.map_append, List.map_cons, List.map_replicate, List.map_replicate]
  rfl
theorem has_once_a {n p : Nat} : (hasN "a" (onceN n p)).any id = false := by
  have e : hasN "a" (onceN n p) = List.replicate p false ++ false :: List.replicate (n - 1 - p) false := by
    unfold hasN onceN
    rw [List.map_append, List.map_cons, List.map_replicate, List.map_replicate]
    rfl
  rw [e]
  simp
theorem has_twice {n p t : Nat} (h : p ≤ t) (ht : t < n) : hasN "b" (twiceN n p t) = (hasN "b" (onceN n p)).take t ++ true :: (hasN "b" (onceN n p)).drop (t + 1) := by
  unfold twiceN hasN
  rw [List.map_append, List.map_cons, List.map_take, List.map_drop]
  rfl
theorem wait_once {n p : Nat} (h : p < n) : waitN (hasN "b" (onceN n p)) = some ((n : Int) - 1) := by
  rw [has_once, wait_one]
  congr 1
  omega
theorem wait_twice {n p t : Nat} (h : p ≤ t) (ht : t < n) : waitN (hasN "b" (twiceN n p t)) = some (max ((t : Int) - p) (n - t + p) - 1) := by
  rw [has_twice h ht, has_once]
  by_cases e : p = t
  · subst e
    have e1 : (List.replicate p false ++ true :: List.replicate (n - 1 - p) false).take p = List.replicate p false := by
      have := List.take_left (l₁ := List.replicate p false) (l₂ := true :: List.replicate (n - 1 - p) false)
      rwa [List.length_replicate] at this
    have e2 : (List.replicate p false ++ true :: List.replicate (n - 1 - p) false).drop (p + 1) = List.replicate (n - 1 - p) false := by
      have := List.drop_append (l₁ := List.replicate p false) (l₂ := true :: List.replicate (n - 1 - p) false) (i := p + 1)
      rw [this]
      simp
    rw [e1, e2, wait_one]
    congr 1
    omega
  · have e1 : (List.replicate p false ++ true :: List.replicate (n - 1 - p) false).take t = List.replicate p false ++ true :: List.replicate (t - p - 1) false := by
      rw [List.take_append, List.take_of_length_le (by simp; omega)]
      congr 1
      rw [List.length_replicate]
      have : t - p = (t - p - 1) + 1 := by omega
      rw [this, List.take_succ_cons, List.take_replicate]
      congr 2
      omega
    have e2 : (List.replicate p false ++ true :: List.replicate (n - 1 - p) false).drop (t + 1) = List.replicate (n - 1 - t) false := by
      rw [List.drop_append, List.drop_of_length_le (by simp; omega)]
      rw [List.length_replicate]
      have : t + 1 - p = (t - p) + 1 := by omega
      rw [this, List.drop_succ_cons, List.drop_replicate, List.nil_append]
      congr 1
      omega
    rw [e1, e2]
    have := wait_two p (t - p - 1) (n - 1 - t)
    rw [List.append_assoc, List.cons_append, this]
    congr 1
    omega
theorem sort2 {st : Store} (p q : Int) : ∃ o t, o ≤ t ∧ (o = p ∧ t = q ∨ o = q ∧ t = p) ∧ opBi st .sorted [.lst [.int p, .int q]] = some (.lst [.int o, .int t]) := by
  by_cases h : p ≤ q
  · refine ⟨p, q, h, .inl ⟨rfl, rfl⟩, ?_⟩
    show some (Dat.lst ((if p ≤ q then [p, q] else [q, p]).map Dat.int)) = _
    rw [if_pos h]
    rfl
  · refine ⟨q, p, by omega, .inr ⟨rfl, rfl⟩, ?_⟩
    show some (Dat.lst ((if p ≤ q then [p, q] else [q, p]).map Dat.int)) = _
    rw [if_neg h]
    rfl
section
variable {st : Store} {a b : Int} {rest : Store} {X0 X1 X2 X3 X4 X5 X6 X7 X8 X9 X10 X11 X12 X13 X14 X15 X16 X17 : Sl}
theorem run8 : ∃ a' b' r, 0 ≤ r ∧ r < 7 ∧ exe W 1000000 s8 [.v (.ref 0), X1, X2, X3, X4, X5, X6, X7, X8, X9, X10, X11, X12, X13, X14, X15, X16, X17] (cup a b rest) = .ok (.nx [.v (.ref 0), X1, X2, X3, X4, .v (.int r), X6, X7, X8, X9, X10, X11, X12, X13, X14, X15, X16, X17]) (cup a' b' rest) := by
  obtain ⟨a', b', r, r1, r2, e⟩ := s_roll (fu := 1000000) (k := 97) (a := a) (b := b) (rest := rest) (m := 7) (by decide) (by decide)
  refine ⟨a', b', r, r1, r2, ?_⟩
  simp [s8, e]
theorem run12 : ∃ a' b' f, f ≤ 600 ∧ exe W 1000000 s12 [.v (.ref 0), X1, X2, X3, X4, X5, X6, X7, X8, X9, X10, X11, X12, X13, X14, X15, X16, X17] (cup a b rest) = .ok (.nx [.v (.ref 0), X1, X2, X3, X4, X5, X6, X7, X8, X9, X10, X11, X12, .v pairD, .v (.int (f : Nat)), X15, X16, X17]) (cup a' b' rest) := by
  obtain ⟨a', b', r, r1, r2, e⟩ := s_roll (fu := 1000000) (k := 97) (a := a) (b := b) (rest := rest) (m := 600) (by decide) (by decide)
  obtain ⟨f, rfl⟩ : ∃ f : Nat, r = (f : Int) := ⟨r.toNat, by omega⟩
  refine ⟨a', b', f, by omega, ?_⟩
  have ep : pairD = .tup [.tup [.str "a", .int 3], .tup [.str "b", .int 12]] := rfl
  rw [ep]
  simp [s12, e]
theorem run19 : ∃ a' b' o t, o ≤ t ∧ t < 2000 ∧ exe W 1000000 s19 [.v (.ref 0), X1, X2, X3, X4, X5, X6, X7, X8, X9, X10, X11, X12, X13, X14, X15, X16, X17] (cup a b rest) = .ok (.nx [.v (.ref 0), X1, X2, X3, X4, X5, X6, X7, X8, X9, X10, .v (.int (o : Nat)), X12, X13, X14, .v (.int (t : Nat)), X16, X17]) (cup a' b' rest) := by
  obtain ⟨a1, b1, p, p1, p2, e1⟩ := s_roll (fu := 1000000) (k := 97) (a := a) (b := b) (rest := rest) (m := 2000) (by decide) (by decide)
  obtain ⟨a2, b2, q, q1, q2, e2⟩ := s_roll (fu := 1000000) (k := 97) (a := a1) (b := b1) (rest := rest) (m := 2000) (by decide) (by decide)
  obtain ⟨o, t, h1, h2, e3⟩ := sort2 (st := cup a2 b2 rest) p q
  obtain ⟨o', rfl⟩ : ∃ f : Nat, o = (f : Int) := ⟨o.toNat, by omega⟩
  obtain ⟨t', rfl⟩ : ∃ f : Nat, t = (f : Int) := ⟨t.toNat, by omega⟩
  refine ⟨a2, b2, o', t', by omega, by omega, ?_⟩
  generalize (o' : Int) = o at *
  generalize (t' : Int) = t at *
  simp [s19, e1, e2, e3]
theorem run20 {o : Nat} (h : o < 2000) : exe W 1000000 s20 [X0, X1, X2, X3, X4, X5, X6, X7, X8, X9, X10, .v (.int (o : Nat)), X12, X13, X14, X15, X16, X17] st = .ok (.nx [X0, X1, X2, X3, X4, X5, X6, X7, .v (.tup (dD (onceN 2000 o))), X9, X10, .v (.int (o : Nat)), X12, X13, X14, X15, X16, X17]) st := by
  have er : range1Of (.int 2000) = some ((List.range 2000).map fun i => Dat.int (i : Nat)) := range_nat 2000 (by decide)
  have ec := compL_some (g := compB W [17] (.ife (.cmp .Eq (.var 17) (.var 11)) (.tup (.cons (.str "b") .nil)) (.tup .nil)) (.var 17) .nil [X0, X1, X2, X3, X4, X5, X6, X7, X8, X9, X10, .v (.int (o : Nat)), X12, X13, X14, X15, X16, X17]) (F := fun i : Nat => Dat.int (i : Nat)) (h := fun i => .tup (sD (if i = o then ["b"] else []))) (st := st) (l := List.range 2000) (fun i _ => by
    by_cases q : i = o
    · subst q
      simp [compB, cmp_eq, sD]
    · have q' : ((i : Int) == (o : Int)) = false := by simp; omega
      simp [compB, cmp_eq, q, q', sD])
  have em : ((List.range 2000).map fun i => Dat.tup (sD (if i = o then ["b"] else []))) = dD (onceN 2000 o) := by
    have r := range_once 2000 0 o (by omega) (by omega)
    have : ((List.range 2000).map fun i => Dat.tup (sD (if i = o then ["b"] else []))) = dD ((List.range' 0 2000).map (fun i => if i = o then ([("b" : Str)] : List Str) else [])) := by
      rw [← List.range_eq_range']
      unfold dD
      rw [List.map_map]
      rfl
    rw [this, r]
    rfl
  rw [em] at ec
  have hl : (dD (onceN 2000 o)).length ≤ 16777216 := by unfold dD; rw [List.length_map, once_len h]; omega
  generalize dD (onceN 2000 o) = D at *
  generalize (List.range 2000).map (fun i => Dat.int (i : Nat)) = L at *
  simp [s20, er, ec, sized_ok hl]
theorem run21 {o t : Nat} (h : o < 2000) (ht : t < 2000) : exe W 1000000 s21 [X0, X1, X2, X3, X4, X5, X6, X7, .v (.tup (dD (onceN 2000 o))), X9, X10, X11, X12, X13, X14, .v (.int (t : Nat)), X16, X17] st = .ok (.nx [X0, X1, X2, X3, X4, X5, X6, X7, .v (.tup (dD (onceN 2000 o))), .v (.tup (dD (twiceN 2000 o t))), X10, X11, X12, X13, X14, .v (.int (t : Nat)), X16, X17]) st := by
  have c1 : cutD (dD (onceN 2000 o)) none (some (t : Int)) = dD ((onceN 2000 o).take t) := by
    rw [cut_take (by omega)]
    unfold dD
    rw [List.map_take]
    rfl
  have c2 : cutD (dD (onceN 2000 o)) (some ((t : Int) + 1)) none = dD ((onceN 2000 o).drop (t + 1)) := by
    rw [cut_drop (by omega)]
    unfold dD
    rw [List.map_drop]
    congr 1
  have l1 : (dD ((onceN 2000 o).take t)).length ≤ 2000 := by
    unfold dD
    rw [List.length_map, List.length_take, once_len h]
    omega
  have l2 : (dD ((onceN 2000 o).drop (t + 1))).length ≤ 2000 := by
    unfold dD
    rw [List.length_map, List.length_drop, once_len h]
    omega
  have et : dD ((onceN 2000 o).take t) ++ (.tup [.str "b"] :: dD ((onceN 2000 o).drop (t + 1))) = dD (twiceN 2000 o t) := by
    unfold twiceN dD
    rw [List.map_append]
    rfl
  generalize dD (onceN 2000 o) = D at *
  generalize dD ((onceN 2000 o).take t) = A at *
  generalize dD ((onceN 2000 o).drop (t + 1)) = B at *
  generalize dD (twiceN 2000 o t) = E at *
  generalize (t : Int) = t at *
  have e1 : A.length + 1 ≤ 16777216 := by omega
  have e1' : A.length ≤ 16777215 := by omega
  have e2 : A.length + (B.length + 1) ≤ 16777216 := by omega
  have e2' : A.length + 1 + B.length ≤ 16777216 := by omega
  have e2'' : A.length + (1 + B.length) ≤ 16777216 := by omega
  simp [s21, c1, c2, e1, e1', e2, e2', e2'', et]
theorem round_b {dss : List (List Str)} (h : ∀ zs ∈ dss, zs = (["b"] : List Str) ∨ zs = []) (hl : dss.length = 2000) : gd (1 + 2) (.tup (dD dss)) ∧ fitsRoundN (pairF.map (·.1)) 1 (.tup (dD dss)) = true :=
  ⟨days_gd (fun zs hz => .inr (h zs hz)) (by omega), round_fits (fun zs hz => (h zs hz).elim (fun e => e ▸ day_b) (fun e => e ▸ day_0)) (by omega) (by omega)⟩
theorem wait_b {dss : List (List Str)} (h : ∀ zs ∈ dss, zs = (["b"] : List Str) ∨ zs = []) (hl : dss.length = 2000) {x : Str} (hx : x ∈ pairF.map (·.1)) : W 25 [pairD, .int 1, .tup (dD dss), .str x] st = .ok (optD (waitN (hasN x dss))) st := by
  obtain ⟨g1, g2⟩ := round_b h hl
  have e := s_longest_wait (fu := 1000000) (k := 92) (st := st) pair_ok (many := 1) (by decide) (by decide) g1 g2 (x := x) hx
  rw [dssN_dD] at e
  exact e
theorem run23 {o t : Nat} (h : o ≤ t) (ht : t < 2000) : exe W 1000000 s23 [X0, X1, X2, X3, X4, X5, X6, X7, .v (.tup (dD (onceN 2000 o))), .v (.tup (dD (twiceN 2000 o t))), X10, X11, X12, .v pairD, X14, X15, X16, X17] st = .ok (.nx [X0, .v (.lst [.int 1999, .int (max ((t : Int) - o) (2000 - t + o) - 1), .non]), X2, X3, X4, X5, X6, X7, .v (.tup (dD (onceN 2000 o))), .v (.tup (dD (twiceN 2000 o t))), X10, X11, X12, .v pairD, X14, X15, X16, X17]) st := by
  have g1 := wait_b (st := st) (dss := onceN 2000 o) (fun zs => once_mem) (once_len (by omega)) (x := "b") (by decide +kernel)
  have g2 := wait_b (st := st) (dss := twiceN 2000 o t) (fun zs => twice_mem) (twice_len (by omega) ht) (x := "b") (by decide +kernel)
  have g3 := wait_b (st := st) (dss := onceN 2000 o) (fun zs => once_mem) (once_len (by omega)) (x := "a") (by decide +kernel)
  rw [wait_once (by omega)] at g1
  rw [wait_twice h ht] at g2
  have n : waitN (hasN "a" (onceN 2000 o)) = none := by rw [wait_long]; unfold longN; rw [has_once_a]; rfl
  rw [n] at g3
  have g1 : W 25 [pairD, .int 1, .tup (dD (onceN 2000 o)), .str "b"] st = .ok (.int 1999) st := g1
  have g2 : W 25 [pairD, .int 1, .tup (dD (twiceN 2000 o t)), .str "b"] st = .ok (.int (max ((t : Int) - o) (2000 - t + o) - 1)) st := g2
  have g3 : W 25 [pairD, .int 1, .tup (dD (onceN 2000 o)), .str "a"] st = .ok .non st := g3
  generalize max ((t : Int) - o) (2000 - t + o) - 1 = m at *
  generalize pairD = P at *
  generalize dD (onceN 2000 o) = D at *
  generalize dD (twiceN 2000 o t) = E at *
  simp [s23, g1, g2, g3]
theorem run25 {o t : Int} : exe W 1000000 s25 [X0, .v (.lst [.int 1999, .int (max (t - o) (2000 - t + o) - 1), .non, .tup [.int 0, .int 11], .non]), X2, X3, X4, X5, X6, X7, X8, X9, X10, .v (.int o), X12, X13, X14, .v (.int t), X16, X17] st = .ok (.ret (.bl true)) st := by
  have em : (if t - o < 2000 - t + o then 2000 - t + o else t - o) - 1 = max (t - o) (2000 - t + o) - 1 := by split <;> omega
  generalize max (t - o) (2000 - t + o) - 1 = m at *
  have g := s_like (fu := 1000000) (st := st) 2 (by decide) (.lst [.int 1999, .int m, .non, .tup [.int 0, .int 11], .non]) ⟨by show 5 ≤ 100000; decide, fun d hd => by
    simp only [List.mem_cons, List.not_mem_nil, or_false] at hd
    rcases hd with rfl | rfl | rfl | rfl | rfl
    · trivial
    · trivial
    · trivial
    · exact ⟨by decide, fun x hx => by
        simp only [List.mem_cons, List.not_mem_nil, or_false] at hx
        rcases hx with rfl | rfl <;> trivial⟩
    · trivial⟩ 94
  have g : W 31 [.lst [.int 1999, .int m, .non, .tup [.int 0, .int 11], .non], .lst [.int 1999, .int m, .non, .tup [.int 0, .int 11], .non]] st = .ok (.bl true) st := g
  simp [s25, em, g]
theorem s_written : ∃ st, Phi tab 1000000 99 44 [.ref 0] (cup a b rest) = .ok (.bl true) st := by
  obtain ⟨a1, b1, r, r0, r7, e8⟩ := run8 (a := a) (b := b) (rest := rest) (X1 := .v toldA) (X2 := .v eightD) (X3 := .v turn8D) (X4 := .v nineD) (X5 := .un) (X6 := .un) (X7 := .un) (X8 := .un) (X9 := .un) (X10 := .un) (X11 := .v oneD) (X12 := .v goodD) (X13 := .un) (X14 := .un) (X15 := .un) (X16 := .un) (X17 := .un)
  obtain ⟨a2, b2, f, hf, e12⟩ := run12 (a := a1) (b := b1) (rest := rest) (X1 := .v toldB) (X2 := .v eightD) (X3 := .v turn8D) (X4 := .v nineD) (X5 := .v (.int r)) (X6 := .un) (X7 := .un) (X8 := .un) (X9 := .un) (X10 := .un) (X11 := .v oneD) (X12 := .v goodD) (X13 := .un) (X14 := .un) (X15 := .un) (X16 := .un) (X17 := .un)
  obtain ⟨a3, b3, o, t, hot, ht, e19⟩ := run19 (a := a2) (b := b2) (rest := rest) (X1 := .v toldD) (X2 := .v eightD) (X3 := .v turn8D) (X4 := .v nineD) (X5 := .v (.int r)) (X6 := .v longD) (X7 := .v (.tup (dD (gapN f)))) (X8 := .un) (X9 := .un) (X10 := .un) (X11 := .v oneD) (X12 := .v goodD) (X13 := .v pairD) (X14 := .v (.int (f : Nat))) (X15 := .un) (X16 := .un) (X17 := .un)
  refine ⟨cup a3 b3 rest, ?_⟩
  rw [phi_ap (fn := f__law_written) rfl rfl]
  show (exes W 1000000 b__law_written [.v (.ref 0), .un, .un, .un, .un, .un, .un, .un, .un, .un, .un, .un, .un, .un, .un, .un, .un, .un] (cup a b rest)).bd Fl.out = _
  rw [cut_all, x_appS, runA, bd_ok, k_nx, x_cons, e8, bd_ok, k_nx, x_appS, runB_any r0 r7, bd_ok, k_nx, x_cons, e12, bd_ok, k_nx, x_cons, run13, bd_ok, k_nx, x_cons, run14 hf rfl, bd_ok, k_nx, x_cons, run15 hf, bd_ok, k_nx, x_appS, runD, bd_ok, k_nx, x_cons, e19, bd_ok, k_nx, x_cons, run20 (by omega), bd_ok, k_nx, x_cons, run21 (by omega) ht, bd_ok, k_nx, x_cons, run22, bd_ok, k_nx, x_cons, run23 hot ht, bd_ok, k_nx, x_cons, run24, bd_ok, k_nx, x_cons, run25]
  rfl
end
theorem law_true (ns : List Int) (hl : ns.length ≤ 63) : ∃ st, Phi tab 1000000 100 46 [.scr ns] [] = .ok (.bl true) st :=
  law_of (fu := 1000000) (k := 92) (Nat.le_refl _) (by kernel_rfl) (fun a b rest => s_written) ns hl
end K80
end
set_option maxRecDepth 100000 in
theorem PySem.Challenge.cw_fieldwaters_k80_whole_fields_and_rounds_holds : PySem.Challenge.rw_fieldwaters_k80_whole_fields_and_rounds.Holds := by
  exact K80_of K80.law_true
