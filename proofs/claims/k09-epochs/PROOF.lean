import PyProof.Rows.All
import Wide.All
import OpenK.AllK
import Wide.FinOn
import HandS.ForMost
import HandS.Defaults
import HandS.HeadHook3
import KE.DataEq
import HandS.TupAny
import HandS.Style
import HandS.IsInst
import HandS.SortInts
import HandS.NoneIn
import HandS.Codes
import HandS.Iter
import HandS.Comp
import HandS.Small
import HandS.SetFor
import HandS.More
import HandS.Head0
import HandS.Head1
import HandS.Head2
import HandS.HeadEnd
import HandS.HeadHook1
import HandS.HeadHook2
import HandS.DictComp
import HandS.Conv
import KE.SortKeyHeap
import KE.SortLaws
import HandS.DictTup
import HandS.ListItems
import KE.SortData
import HandS.ExcCtx
import HandS.ExcIs
import HandS.Deep
import PySem.Challenge.RW_driftkept_k09_whole_epochs
set_option Elab.async false
set_option linter.all false
set_option maxRecDepth 100000
set_option maxHeartbeats 0
/-! R1a: values and a store of one's own; how they lie in the heap; what an expression, a test, a statement does, as functions of the store. -/
namespace R1
open PySem PySem.Spec PyProof.Rows L2
/-! ### the words and the classes, by number -/
def words0 : List Str := [("" : Str), ("items" : Str), ("read" : Str), ("write" : Str), ("swap" : Str), ("decide" : Str), ("flush" : Str), ("fence" : Str), ("word" : Str), ("done" : Str), ("access" : Str), ("drift" : Str), ("refused" : Str), ("cut" : Str), ("end" : Str), ("trails" : Str), ("notes" : Str), ("count" : Str), ("failed" : Str), ("call" : Str), ("deed" : Str), ("record" : Str), ("last" : Str), ("help" : Str), ("status" : Str), ("final" : Str), ("x" : Str), ("again" : Str), ("slot" : Str), ("move" : Str), ("stamp" : Str), ("other" : Str)]
def words1 : List Str := [("epoch" : Str), ("out" : Str), ("in" : Str), ("leaving" : Str), ("entering" : Str), ("rows" : Str), ("a" : Str), ("look" : Str), ("put" : Str), ("take" : Str), ("change" : Str), ("puts" : Str), ("answer" : Str), ("full" : Str), ("undone" : Str), ("time" : Str), ("row" : Str), ("missing" : Str), ("twice" : Str), ("enter" : Str), ("do" : Str), ("told" : Str), ("seen" : Str), ("leave" : Str), ("words" : Str), ("slots" : Str), ("mark" : Str), ("odd" : Str), ("lost" : Str), ("history" : Str), ("memory" : Str), ("map" : Str)]
def words : List Str := words0 ++ words1
theorem words_nodup : words.Nodup := by decide +kernel
theorem words_short : ∀ s ∈ words, s.cps.size < 64 := by decide +kernel
/-- the word with a number -/
def nm (k : Nat) : Str := match words[k]? with
  | some s => s
  | none => ⟨Array.replicate (k + 64) 97⟩
theorem nm_inj {j k : Nat} (h : nm j = nm k) : j = k := by
  unfold nm at h
  cases e1 : words[j]? with
  | some s =>
    cases e2 : words[k]? with
    | some t =>
      rw [e1, e2] at h
      have h : s = t := h
      subst h
      obtain ⟨h1, q1⟩ := List.getElem?_eq_some_iff.mp e1
      obtain ⟨h2, q2⟩ := List.getElem?_eq_some_iff.mp e2
      exact (List.getElem_inj words_nodup).mp (q1.trans q2.symm)
    | none =>
      rw [e1, e2] at h
      have h : s = ⟨Array.replicate (k + 64) 97⟩ := h
      have q := words_short s (List.mem_of_getElem? e1)
      rw [h] at q
      simp at q
      omega
  | none =>
    cases e2 : words[k]? with
    | some t =>
      rw [e1, e2] at h
      have h : ⟨Array.replicate (j + 64) 97⟩ = t := h
      have q := words_short t (List.mem_of_getElem? e2)
      rw [← h] at q
      simp at q
      omega
    | none =>
      rw [e1, e2] at h
      have h : (⟨Array.replicate (j + 64) 97⟩ : Str) = ⟨Array.replicate (k + 64) 97⟩ := h
      have q := congrArg (fun s : Str => s.cps.size) h
      simp at q
      exact q
theorem nm_eq (j k : Nat) : decide (nm j = nm k) = decide (j = k) := by
  by_cases h : j = k
  · rw [h, decide_eq_true rfl, decide_eq_true rfl]
  · rw [decide_eq_false h, decide_eq_false fun q => h (nm_inj q)]
/-- the classes: name, fields in the order in which an instance gets them -/
def classes : List (Str × List Str) := [("Layout", ["threads", "words", "records"]),
  ("Memory", ["layout", "count", "rows", "trails", "notes"]),
  ("Shown", ["cell", "mark", "first", "result"]),
  ("Stack", ["machines", "result"]),
  ("Doing", ["address", "without", "status", "entries", "index", "state", "helper", "verdict", "left"]),
  ("Store", ["layout", "thread", "spare", "taken_out", "delayed"]),
  ("Entering", ["epoch_cell", "slot", "state", "epoch"]),
  ("Leaving", ["store", "epoch", "others", "state"]),
  ("Making", ["left"]),
  ("KeyCall", ["store", "call", "number", "without", "layout", "slot", "answer", "witness", "done", "status", "failed", "left", "rows", "records", "seen", "cells", "olds", "state", "wanted"]),
  ("Recovering", ["layout", "left", "slots", "deeds", "statuses", "addresses", "held", "mark", "todo", "state", "wanted"]),
  ("Worker", ["calls", "index", "is_open", "machine", "stack", "first"]),
  ("World", ["layout", "memory", "without", "workers", "rows", "recovery", "stores"])]
def cname (c : Nat) : Str := (classes.getD c ("", [])).1
def cfields (c : Nat) : List Str := (classes.getD c ("", [])).2
theorem fields_ok (c : Nat) : (cfields c).Nodup ∧ (cfields c).length < 100 := by
  have h : ∀ q ∈ classes, q.2.Nodup ∧ q.2.length < 100 := by decide +kernel
  unfold cfields
  rw [List.getD_eq_getElem?_getD]
  cases e : classes[c]? with
  | none => exact ⟨List.nodup_nil, by decide⟩
  | some q => exact h q (List.mem_of_getElem? e)
/-- a key of a dict: an int, a word -/
abbrev Ky := Sum Int Nat
def kyOf : Ky → Key
  | .inl i => .inl i
  | .inr k => .inr (nm k)
theorem kyOf_inj {a b : Ky} (h : kyOf a = kyOf b) : a = b := by
  cases a with
  | inl i =>
    cases b with
    | inl j => rw [Sum.inl.inj h]
    | inr j => cases h
  | inr i =>
    cases b with
    | inl j => cases h
    | inr j => rw [nm_inj (Sum.inr.inj h)]
/-- a value: texts by their number, tuples by value, what may change by its index in the store -/
inductive Val where
  | non | bl (b : Bool) | int (i : Int) | str (k : Nat) | tup (l : List Val) | fro (l : List Val) | scr (l : List Val) | frd (l : List (Ky × Val)) | obj (i : Nat)
instance : Inhabited Val := ⟨.non⟩
/-- an object: a list, a dict (keys ints and texts), a dict that is walked, an instance of the class c with the values of its fields -/
inductive Ob where
  | lst (xs : List Val) | dic (kvs : List (Ky × Val)) | lok (kvs : List (Ky × Val)) | ins (c : Nat) (vs : List Val)
abbrev Store := List Ob
inductive Res (α : Type) where
  | ok (a : α) (G : Store) | exc (c : Str) (G : Store) | bad
def Res.bind {α β : Type} (r : Res α) (f : α → Store → Res β) : Res β := match r with
  | .ok a G => f a G
  | .exc c G => .exc c G
  | .bad => .bad
abbrev Env1 := List (Option Val)
abbrev EM := Env1 → Store → Res Val
abbrev TM := Env1 → Store → Res Bool
abbrev AM := Env1 → Store → Res (List Val)
/-! ### how a value lies in the heap -/
/-- where the store's objects lie; M: the addresses whose objects may change -/
structure Vw where
  f : Nat → Addr
  M : Addr → Prop
instance : CoeFun Vw fun _ => Nat → Addr := ⟨Vw.f⟩
/-- a list that is never changed -/
def SqF (M : Addr → Prop) (H : Hp) (a : Addr) (xs : List V) : Prop := H a = some (.lst xs) ∧ ¬ M a
/-- the script -/
def SqS (K : PySem.W.Frag) (H : Hp) (a : Addr) (xs : List V) : Prop :=
  (∃ o, H a = some (.frz o (.lst xs))) ∨
    ∃ (o : Obj) (its : Array Value) (n : Nat), K.lookup a = some o ∧ o.cls = .type "list" ∧ o.dict = none ∧ o.data = .seq its n ∧ its.size ≤ sizeLine ∧ Vals xs its.toList
theorem SqF.l {K : PySem.W.Frag} {M : Addr → Prop} {H : Hp} {a : Addr} {xs : List V} (h : SqF M H a xs) : SqL K H a xs := .of h.1
theorem SqS.l {K : PySem.W.Frag} {H : Hp} {a : Addr} {xs : List V} (h : SqS K H a xs) : SqL K H a xs := by
  rcases h with h | h
  · exact .inl (.inr h)
  · exact .inr h
/-- a dict that is only read -/
def DcF (M : Addr → Prop) (H : Hp) (a : Addr) (kws : List (Key × V)) : Prop := (H a = some (.dK kws) ∨ ∃ o, H a = some (.frz o (.dK kws))) ∧ ¬ M a
section
variable (K : PySem.W.Frag) (ι : Vw) (n : Nat) (H : Hp)
mutual
def Rep : Val → V → Prop
  | .non, x => x = .non
  | .bl b, x => x = .bl b
  | .int i, x => x = .int i
  | .str k, x => x = .str (nm k)
  | .tup l, x => ∃ a xs, x = .ref a ∧ SqT K H a xs ∧ Reps l xs
  | .fro l, x => ∃ a xs, x = .ref a ∧ SqF ι.M H a xs ∧ Reps l xs
  | .scr l, x => ∃ a xs, x = .ref a ∧ SqS K H a xs ∧ Reps l xs
  | .frd l, x => ∃ a xs, x = .ref a ∧ DcF ι.M H a xs ∧ KReps l xs
  | .obj i, x => i < n ∧ x = .ref (ι i)
def Reps : List Val → List V → Prop
  | [], xs => xs = []
  | v :: vs, xs => ∃ y ys, xs = y :: ys ∧ Rep v y ∧ Reps vs ys
/-- a dict's pairs -/
def KReps : List (Ky × Val) → List (Key × V) → Prop
  | [], xs => xs = []
  | (k, v) :: qs, xs => ∃ y ys, xs = (kyOf k, y) :: ys ∧ Rep v y ∧ KReps qs ys
end
/-- an instance's values, by the names of its fields -/
def FReps : List Str → List Val → List (Str × V) → Prop
  | _, [], xs => xs = []
  | [], _ :: _, _ => False
  | f :: fs, v :: vs, xs => ∃ y ys, xs = (f, y) :: ys ∧ Rep K ι n H v y ∧ FReps fs vs ys
/-- a class whose instances are plain -/
structure ClsOk (c : Nat) : Prop where
  cls : Cls K (He.ga K (cname c))
  fld : ∀ f ∈ cfields c, NoAttr K (He.ga K (cname c)) f
def ORep : Ob → Addr → Prop
  | .lst l, a => ∃ xs, H a = some (.lst xs) ∧ Reps K ι n H l xs
  | .dic kvs, a => ∃ kws, H a = some (.dK kws) ∧ KReps K ι n H kvs kws
  | .lok kvs, a => ∃ o kws, H a = some (.frz o (.dK kws)) ∧ KReps K ι n H kvs kws
  | .ins c vs, a => ClsOk K c ∧ ∃ dx gs, H a = some (.ins (He.ga K (cname c)) dx gs) ∧ FReps K ι n H (cfields c) vs gs
end
/-- the store lies in the heap -/
structure Sim (K : PySem.W.Frag) (ι : Vw) (G : Store) (H : Hp) : Prop where
  inj : ∀ i j, i < G.length → j < G.length → ι i = ι j → i = j
  mu : ∀ i, i < G.length → ι.M (ι i)
  dom : ∀ a, ι.M a → ∃ u, H a = some u
  obj : ∀ i o, G[i]? = some o → ORep K ι G.length H o (ι i)
/-- what a run keeps: the old indices, all that is only read, what is held aside -/
structure Ext (K : PySem.W.Frag) (ι : Vw) (n : Nat) (H : Hp) (ι' : Vw) (n' : Nat) (H' : Hp) : Prop where
  le : n ≤ n'
  same : ∀ i, i < n → ι' i = ι i
  tup : ∀ a xs, SqT K H a xs → SqT K H' a xs
  fro : ∀ a xs, SqF ι.M H a xs → SqF ι'.M H' a xs
  frd : ∀ a xs, DcF ι.M H a xs → DcF ι'.M H' a xs
  frz : ∀ a o u, H a = some (.frz o u) → H' a = some (.frz o u)
  res : ∀ a u, ι.M a → (∀ i, i < n → ι i ≠ a) → H a = some u → H' a = some u ∧ ι'.M a ∧ ∀ i, i < n' → ι' i ≠ a
/-- what values ask of that -/
structure Ext0 (K : PySem.W.Frag) (ι : Vw) (n : Nat) (H : Hp) (ι' : Vw) (n' : Nat) (H' : Hp) : Prop where
  le : n ≤ n'
  same : ∀ i, i < n → ι' i = ι i
  tup : ∀ a xs, SqT K H a xs → SqT K H' a xs
  fro : ∀ a xs, SqF ι.M H a xs → SqF ι'.M H' a xs
  frd : ∀ a xs, DcF ι.M H a xs → DcF ι'.M H' a xs
  scr : ∀ a xs, SqS K H a xs → SqS K H' a xs
section
variable {K : PySem.W.Frag} {ι ι' ι2 : Vw} {n n' n2 : Nat} {H H' H2 : Hp}
theorem Ext.refl : Ext K ι n H ι n H := ⟨Nat.le_refl _, fun _ _ => rfl, fun _ _ h => h, fun _ _ h => h, fun _ _ h => h, fun _ _ _ h => h, fun _ _ h1 h2 h3 => ⟨h3, h1, h2⟩⟩
theorem Ext.trans (a : Ext K ι n H ι' n' H') (b : Ext K ι' n' H' ι2 n2 H2) : Ext K ι n H ι2 n2 H2 :=
  ⟨Nat.le_trans a.le b.le, fun i h => (b.same i (Nat.lt_of_lt_of_le h a.le)).trans (a.same i h), fun x xs h => b.tup x xs (a.tup x xs h), fun x xs h => b.fro x xs (a.fro x xs h), fun x xs h => b.frd x xs (a.frd x xs h), fun x o u h => b.frz x o u (a.frz x o u h), fun x u h1 h2 h3 => let ⟨e1, e2, e3⟩ := a.res x u h1 h2 h3; b.res x u e2 e3 e1⟩
mutual
theorem Rep.ext0 (e : Ext0 K ι n H ι' n' H') : ∀ {v : Val} {x : V}, Rep K ι n H v x → Rep K ι' n' H' v x
  | .non, _, h => h
  | .bl _, _, h => h
  | .int _, _, h => h
  | .str _, _, h => h
  | .tup l, _, ⟨a, xs, h1, h2, h3⟩ => ⟨a, xs, h1, e.tup a xs h2, Reps.ext0 e h3⟩
  | .fro l, _, ⟨a, xs, h1, h2, h3⟩ => ⟨a, xs, h1, e.fro a xs h2, Reps.ext0 e h3⟩
  | .scr l, _, ⟨a, xs, h1, h2, h3⟩ => ⟨a, xs, h1, e.scr a xs h2, Reps.ext0 e h3⟩
  | .frd l, _, ⟨a, xs, h1, h2, h3⟩ => ⟨a, xs, h1, e.frd a xs h2, KReps.ext0 e h3⟩
  | .obj i, _, ⟨h1, h2⟩ => ⟨Nat.lt_of_lt_of_le h1 e.le, by rw [e.same i h1]; exact h2⟩
theorem Reps.ext0 (e : Ext0 K ι n H ι' n' H') : ∀ {l : List Val} {xs : List V}, Reps K ι n H l xs → Reps K ι' n' H' l xs
  | [], _, h => h
  | _ :: _, _, ⟨y, ys, h1, h2, h3⟩ => ⟨y, ys, h1, Rep.ext0 e h2, Reps.ext0 e h3⟩
theorem KReps.ext0 (e : Ext0 K ι n H ι' n' H') : ∀ {l : List (Ky × Val)} {xs : List (Key × V)}, KReps K ι n H l xs → KReps K ι' n' H' l xs
  | [], _, h => h
  | (_, _) :: _, _, ⟨y, ys, h1, h2, h3⟩ => ⟨y, ys, h1, Rep.ext0 e h2, KReps.ext0 e h3⟩
end
theorem FReps.ext0 (e : Ext0 K ι n H ι' n' H') : ∀ {fs : List Str} {l : List Val} {xs : List (Str × V)}, FReps K ι n H fs l xs → FReps K ι' n' H' fs l xs
  | [], [], _, h => h
  | _ :: _, [], _, h => h
  | [], _ :: _, _, h => h.elim
  | _ :: _, _ :: _, _, ⟨y, ys, h1, h2, h3⟩ => ⟨y, ys, h1, Rep.ext0 e h2, FReps.ext0 e h3⟩
theorem Ext.e0 (e : Ext K ι n H ι' n' H') : Ext0 K ι n H ι' n' H' := ⟨e.le, e.same, e.tup, e.fro, e.frd, fun a xs h => h.imp (fun ⟨o, h⟩ => ⟨o, e.frz a o _ h⟩) id⟩
theorem Rep.ext (e : Ext K ι n H ι' n' H') {v : Val} {x : V} (h : Rep K ι n H v x) : Rep K ι' n' H' v x := Rep.ext0 e.e0 h
theorem Reps.ext (e : Ext K ι n H ι' n' H') {l : List Val} {xs : List V} (h : Reps K ι n H l xs) : Reps K ι' n' H' l xs := Reps.ext0 e.e0 h
theorem KReps.ext (e : Ext K ι n H ι' n' H') {l : List (Ky × Val)} {xs : List (Key × V)} (h : KReps K ι n H l xs) : KReps K ι' n' H' l xs := KReps.ext0 e.e0 h
theorem FReps.ext (e : Ext K ι n H ι' n' H') {fs : List Str} {l : List Val} {xs : List (Str × V)} (h : FReps K ι n H fs l xs) : FReps K ι' n' H' fs l xs := FReps.ext0 e.e0 h
theorem Reps.length : ∀ {l : List Val} {xs : List V}, Reps K ι n H l xs → xs.length = l.length
  | [], _, h => by rw [show _ = [] from h]; rfl
  | _ :: _, _, ⟨y, ys, h1, _, h3⟩ => by rw [h1]; exact congrArg Nat.succ (Reps.length h3)
theorem Reps.get : ∀ {l : List Val} {xs : List V} {i : Nat} {v : Val}, Reps K ι n H l xs → l[i]? = some v → ∃ x, xs[i]? = some x ∧ Rep K ι n H v x
  | [], _, _, _, _, e => by simp at e
  | w :: l, _, 0, v, ⟨y, ys, h1, h2, _⟩, e => by
    rw [List.getElem?_cons_zero] at e
    cases e
    exact ⟨y, by rw [h1]; rfl, h2⟩
  | w :: l, _, i + 1, v, ⟨y, ys, h1, _, h3⟩, e => by
    rw [List.getElem?_cons_succ] at e
    obtain ⟨x, e1, e2⟩ := Reps.get h3 e
    exact ⟨x, by rw [h1, List.getElem?_cons_succ]; exact e1, e2⟩
theorem Reps.append : ∀ {l m : List Val} {xs ys : List V}, Reps K ι n H l xs → Reps K ι n H m ys → Reps K ι n H (l ++ m) (xs ++ ys)
  | [], _, _, _, h, h' => by rw [show _ = [] from h]; exact h'
  | _ :: _, _, _, _, ⟨y, ys, h1, h2, h3⟩, h' => by rw [h1]; exact ⟨y, ys ++ _, rfl, h2, Reps.append h3 h'⟩
theorem Reps.one {v : Val} {x : V} (h : Rep K ι n H v x) : Reps K ι n H [v] [x] := ⟨x, [], rfl, h, rfl⟩
theorem Reps.take : ∀ {l : List Val} {xs : List V} (k : Nat), Reps K ι n H l xs → Reps K ι n H (l.take k) (xs.take k)
  | [], _, k, h => by rw [show _ = [] from h]; cases k <;> exact rfl
  | _ :: _, _, 0, _ => rfl
  | _ :: _, _, k + 1, ⟨y, ys, h1, h2, h3⟩ => by rw [h1]; exact ⟨y, ys.take k, rfl, h2, Reps.take k h3⟩
theorem Reps.drop : ∀ {l : List Val} {xs : List V} (k : Nat), Reps K ι n H l xs → Reps K ι n H (l.drop k) (xs.drop k)
  | [], _, k, h => by rw [show _ = [] from h]; cases k <;> exact rfl
  | _ :: _, _, 0, h => h
  | _ :: _, _, k + 1, ⟨y, ys, h1, _, h3⟩ => by rw [h1]; exact Reps.drop k h3
theorem Reps.set {v : Val} {x : V} (r : Rep K ι n H v x) : ∀ {l : List Val} {xs : List V} (k : Nat), Reps K ι n H l xs → Reps K ι n H (l.set k v) (xs.set k x)
  | [], _, k, h => by rw [show _ = [] from h]; cases k <;> exact rfl
  | _ :: _, _, 0, ⟨y, ys, h1, _, h3⟩ => by rw [h1]; exact ⟨x, ys, rfl, r, h3⟩
  | _ :: _, _, k + 1, ⟨y, ys, h1, h2, h3⟩ => by rw [h1]; exact ⟨y, ys.set k x, rfl, h2, Reps.set r k h3⟩
theorem Reps.dropLast : ∀ {l : List Val} {xs : List V}, Reps K ι n H l xs → Reps K ι n H l.dropLast xs.dropLast := fun {l xs} h => by
  rw [List.dropLast_eq_take, List.dropLast_eq_take, h.length]
  exact h.take _
theorem KReps.keys : ∀ {l : List (Ky × Val)} {xs : List (Key × V)}, KReps K ι n H l xs → xs.map (·.1) = l.map fun q => kyOf q.1
  | [], _, h => by rw [show _ = [] from h]; rfl
  | q :: _, _, ⟨y, ys, h1, _, h3⟩ => by rw [h1, List.map_cons, List.map_cons, KReps.keys h3]
theorem KReps.length {l : List (Ky × Val)} {xs : List (Key × V)} (h : KReps K ι n H l xs) : xs.length = l.length := by
  have e := congrArg List.length h.keys
  simpa using e
theorem FReps.length : ∀ {fs : List Str} {l : List Val} {xs : List (Str × V)}, FReps K ι n H fs l xs → xs.length = l.length ∧ l.length ≤ fs.length
  | [], [], _, h => by rw [show _ = [] from h]; exact ⟨rfl, Nat.le_refl _⟩
  | _ :: _, [], _, h => by rw [show _ = [] from h]; exact ⟨rfl, Nat.zero_le _⟩
  | [], _ :: _, _, h => h.elim
  | _ :: _, _ :: _, _, ⟨y, ys, h1, _, h3⟩ => by
    rw [h1]
    exact ⟨congrArg Nat.succ (FReps.length h3).1, Nat.succ_le_succ (FReps.length h3).2⟩
theorem FReps.mem : ∀ {fs : List Str} {l : List Val} {xs : List (Str × V)} {g : Str} {y : V}, FReps K ι n H fs l xs → (g, y) ∈ xs → g ∈ fs
  | [], [], _, _, _, h, m => by rw [show _ = [] from h] at m; cases m
  | _ :: _, [], _, _, _, h, m => by rw [show _ = [] from h] at m; cases m
  | [], _ :: _, _, _, _, h, _ => h.elim
  | f :: fs, _ :: _, _, g, z, ⟨y, ys, h1, _, h3⟩, m => by
    rw [h1] at m
    rcases List.mem_cons.mp m with e | m
    · cases e
      exact List.mem_cons_self ..
    · exact List.mem_cons_of_mem _ (FReps.mem h3 m)
/-- the field at the place p -/
theorem FReps.look : ∀ {fs : List Str} {l : List Val} {xs : List (Str × V)} {p : Nat} {f : Str} {v : Val}, FReps K ι n H fs l xs → fs.Nodup → fs[p]? = some f → l[p]? = some v → ∃ y, xs.lookup f = some y ∧ Rep K ι n H v y
  | _, [], _, _, _, _, _, _, _, e => by simp at e
  | [], _ :: _, _, _, _, _, h, _, _, _ => h.elim
  | g :: fs, w :: l, _, 0, f, v, ⟨y, ys, h1, h2, h3⟩, _, e1, e2 => by
    rw [List.getElem?_cons_zero] at e1 e2
    cases e1
    cases e2
    rw [h1]
    exact ⟨y, by rw [List.lookup_cons, beq_self_eq_true], h2⟩
  | g :: fs, w :: l, _, p + 1, f, v, ⟨y, ys, h1, h2, h3⟩, nd, e1, e2 => by
    rw [List.getElem?_cons_succ] at e1 e2
    obtain ⟨n1, n2⟩ := List.nodup_cons.mp nd
    have ne : (f == g) = false := beq_false_of_ne fun q => n1 (by rw [← q]; exact List.mem_of_getElem? e1)
    obtain ⟨x, q1, q2⟩ := FReps.look h3 n2 e1 e2
    rw [h1]
    exact ⟨x, by rw [List.lookup_cons, ne]; exact q1, q2⟩
theorem FReps.none : ∀ {fs : List Str} {l : List Val} {xs : List (Str × V)} {f : Str}, FReps K ι n H fs l xs → ¬ f ∈ fs → xs.lookup f = none
  | [], [], _, _, h, _ => by rw [show _ = [] from h]; rfl
  | _ :: _, [], _, _, h, _ => by rw [show _ = [] from h]; rfl
  | [], _ :: _, _, _, h, _ => h.elim
  | g :: fs, w :: l, _, f, ⟨y, ys, h1, h2, h3⟩, nf => by
    have ne : (f == g) = false := beq_false_of_ne fun q => nf (by rw [q]; exact List.mem_cons_self ..)
    rw [h1, List.lookup_cons, ne]
    exact FReps.none h3 fun q => nf (List.mem_cons_of_mem _ q)
/-- the field at the place p is given a value -/
theorem FReps.put {v : Val} {y : V} (r : Rep K ι n H v y) : ∀ {fs : List Str} {l : List Val} {xs : List (Str × V)} {p : Nat} {f : Str}, FReps K ι n H fs l xs → fs.Nodup → fs[p]? = some f → p ≤ l.length →
    FReps K ι n H fs (if p < l.length then l.set p v else l ++ [v]) (putF f y xs)
  | [], [], _, p, f, _, _, e, _ => by simp at e
  | [], _ :: _, _, _, _, h, _, _, _ => h.elim
  | g :: fs, [], _, p, f, h, _, e, hp => by
    have h0 : p = 0 := Nat.le_zero.mp hp
    subst h0
    rw [List.getElem?_cons_zero] at e
    cases e
    rw [show _ = [] from h, if_neg (show ¬ 0 < ([] : List Val).length from Nat.lt_irrefl _)]
    exact ⟨y, [], rfl, r, by cases fs <;> exact rfl⟩
  | g :: fs, w :: l, _, 0, f, ⟨z, zs, h1, h2, h3⟩, nd, e, hp => by
    rw [List.getElem?_cons_zero] at e
    cases e
    rw [h1, if_pos (show 0 < (w :: l).length from Nat.succ_pos _)]
    refine ⟨y, zs, ?_, r, h3⟩
    show (if g = g then _ else _) = _
    rw [if_pos rfl]
  | g :: fs, w :: l, _, p + 1, f, ⟨z, zs, h1, h2, h3⟩, nd, e, hp => by
    rw [List.getElem?_cons_succ] at e
    obtain ⟨n1, n2⟩ := List.nodup_cons.mp nd
    have ne : ¬ g = f := fun q => n1 (by rw [q]; exact List.mem_of_getElem? e)
    have ih := FReps.put r h3 n2 e (Nat.le_of_succ_le_succ hp)
    rw [h1]
    have e2 : putF f y ((g, z) :: zs) = (g, z) :: putF f y zs := by
      show (if g = f then _ else (g, z) :: putF f y zs) = _
      rw [if_neg ne]
    rw [e2]
    by_cases hq : p < l.length
    · rw [if_pos hq] at ih
      rw [if_pos (show p + 1 < (w :: l).length from Nat.succ_lt_succ hq)]
      exact ⟨z, _, rfl, h2, ih⟩
    · rw [if_neg hq] at ih
      rw [if_neg (show ¬ p + 1 < (w :: l).length from fun q => hq (Nat.lt_of_succ_lt_succ q))]
      exact ⟨z, _, rfl, h2, ih⟩
theorem ORep.ext0 {o : Ob} {a : Addr} (e : Ext0 K ι n H ι' n' H') (hl : ∀ u, H a = some u → H' a = some u) (h : ORep K ι n H o a) : ORep K ι' n' H' o a := by
  cases o with
  | lst l =>
    obtain ⟨xs, h1, h2⟩ := h
    exact ⟨xs, hl _ h1, h2.ext0 e⟩
  | dic kvs =>
    obtain ⟨xs, h1, h2⟩ := h
    exact ⟨xs, hl _ h1, h2.ext0 e⟩
  | lok kvs =>
    obtain ⟨o, xs, h1, h2⟩ := h
    exact ⟨o, xs, hl _ h1, h2.ext0 e⟩
  | ins c fs =>
    obtain ⟨k, dx, xs, h1, h2⟩ := h
    exact ⟨k, dx, xs, hl _ h1, h2.ext0 e⟩
theorem ORep.ext {o : Ob} {a : Addr} (e : Ext K ι n H ι' n' H') (hl : ∀ u, H a = some u → H' a = some u) (h : ORep K ι n H o a) : ORep K ι' n' H' o a := h.ext0 e.e0 hl
/-- what an object of the store may stand as -/
def Mutl : HO → Prop
  | .lst _ => True
  | .dK _ => True
  | .ins _ _ _ => True
  | _ => False
def Ob.free : Ob → Bool
  | .lok _ => false
  | _ => true
theorem ORep.there {o : Ob} {a : Addr} (h : ORep K ι n H o a) : ∃ u, H a = some u ∧ (o.free = true → Mutl u) := by
  cases o with
  | lst l =>
    obtain ⟨xs, h1, h2⟩ := h
    exact ⟨_, h1, fun _ => trivial⟩
  | dic kvs =>
    obtain ⟨xs, h1, h2⟩ := h
    exact ⟨_, h1, fun _ => trivial⟩
  | lok kvs =>
    obtain ⟨o, xs, h1, h2⟩ := h
    exact ⟨_, h1, fun h => by cases h⟩
  | ins c fs =>
    obtain ⟨k, dx, xs, h1, h2⟩ := h
    exact ⟨_, h1, fun _ => trivial⟩
end
/-! ### one step of the heap -/
section
variable {K : PySem.W.Frag} {ι : Vw} {n : Nat} {G : Store} {H : Hp}
/-- p is new or holds what may change -/
inductive Free (ι : Vw) (n : Nat) (H : Hp) (p : Addr) : Prop where
  | fresh (h : H p = none)
  | old (i : Nat) (hi : i < n) (e : ι i = p) (m : ι.M p) (u : HO) (h : H p = some u) (mu : Mutl u)
theorem Free.of {p : Addr} (h : Free ι n H p) : ∀ u, H p = some u → Mutl u := fun u e => by
  cases h with
  | fresh h => rw [h] at e; cases e
  | old i hi e0 m v h mu => rw [h] at e; cases e; exact mu
theorem Free.ne {a p : Addr} {u : HO} (h : Free ι n H p) (ha : H a = some u) (hm : ¬ ι.M a) : a ≠ p := fun e => by
  subst e
  cases h with
  | fresh h => rw [h] at ha; cases ha
  | old i hi e0 m v h mu => exact hm m
theorem SqT.updT {a p : Addr} {o : HO} {xs : List V} (hp : Free ι n H p) (h : SqT K H a xs) : SqT K (L2.upd H p o) a xs := by
  rcases h with h | h
  · refine .inl ?_
    rcases h with h | ⟨z, h⟩
    · have ne : a ≠ p := fun e => by rw [e] at h; exact hp.of _ h
      exact .inl (by rw [upd_ne ne]; exact h)
    · have ne : a ≠ p := fun e => by rw [e] at h; exact hp.of _ h
      exact .inr ⟨z, by rw [upd_ne ne]; exact h⟩
  · exact .inr h
theorem frz_upd {p : Addr} {o : HO} (hp : Free ι n H p) : ∀ a z u, H a = some (.frz z u) → (upd H p o) a = some (.frz z u) := fun a z u h => by
  have ne : a ≠ p := fun e => by rw [e] at h; exact hp.of _ h
  rw [upd_ne ne]
  exact h
theorem SqF.updF {a p : Addr} {o : HO} {xs : List V} (hp : Free ι n H p) (h : SqF ι.M H a xs) : SqF ι.M (L2.upd H p o) a xs := ⟨by rw [upd_ne (hp.ne h.1 h.2)]; exact h.1, h.2⟩
theorem DcF.updF {a p : Addr} {o : HO} {xs : List (Key × V)} (hp : Free ι n H p) (h : DcF ι.M H a xs) : DcF ι.M (L2.upd H p o) a xs := by
  obtain ⟨h | ⟨z, h⟩, hm⟩ := h
  · exact ⟨.inl (by rw [upd_ne (hp.ne h hm)]; exact h), hm⟩
  · exact ⟨.inr ⟨z, frz_upd hp _ _ _ h⟩, hm⟩
theorem Ext.updE {p : Addr} {o : HO} (hp : Free ι n H p) : Ext K ι n H ι n (upd H p o) := ⟨Nat.le_refl _, fun _ _ => rfl, fun _ _ h => SqT.updT hp h, fun _ _ h => SqF.updF hp h, fun _ _ h => DcF.updF hp h, frz_upd hp, fun a u h1 h2 h3 => by
  refine ⟨?_, h1, h2⟩
  have ne : a ≠ p := fun e => by
    subst e
    cases hp with
    | fresh h => rw [h] at h3; cases h3
    | old i hi e0 m v h mu => exact h2 i hi e0
  rw [upd_ne ne]
  exact h3⟩
theorem Sim.fr {i : Nat} {o : Ob} {u : HO} (S : Sim K ι G H) (hi : G[i]? = some o) (h : H (ι i) = some u) (m : Mutl u) : Free ι G.length H (ι i) :=
  .old i (List.getElem?_eq_some_iff.mp hi).1 rfl (S.mu i (List.getElem?_eq_some_iff.mp hi).1) u h m
theorem dom_upd {p : Addr} {o : HO} (h : ∀ a, ι.M a → ∃ u, H a = some u) : ∀ a, ι.M a → ∃ u, (upd H p o) a = some u := fun a m => by
  by_cases e : a = p
  · subst e
    exact ⟨o, upd_same⟩
  · rw [upd_ne e]
    exact h a m
/-- something new that the store does not hold -/
theorem Sim.junk {p : Addr} {u : HO} (S : Sim K ι G H) (hp : H p = none) : Sim K ι G (upd H p u) :=
  ⟨S.inj, S.mu, dom_upd S.dom, fun i o e => (S.obj i o e).ext (Ext.updE (.fresh hp)) fun v hv => by rw [upd_ne (ne_of_none hv hp)]; exact hv⟩
theorem Sim.nm {p : Addr} (S : Sim K ι G H) (hp : H p = none) : ¬ ι.M p := fun m => by
  obtain ⟨u, h⟩ := S.dom p m
  rw [hp] at h
  cases h
def into (ι : Vw) (n : Nat) (p : Addr) : Vw := ⟨fun i => if i = n then p else ι i, fun a => ι.M a ∨ a = p⟩
theorem into_eq {p : Addr} : into ι n p n = p := if_pos rfl
theorem into_lt {p : Addr} {i : Nat} (h : i < n) : into ι n p i = ι i := if_neg (Nat.ne_of_lt h)
theorem into_nm {a p : Addr} (h : ¬ ι.M a) (ne : a ≠ p) : ¬ (into ι n p).M a := fun m => m.elim h ne
/-- a new object of the store -/
theorem Ext.push {p : Addr} {u : HO} (hp : H p = none) : Ext K ι n H (into ι n p) (n + 1) (upd H p u) :=
  ⟨Nat.le_succ _, fun _ h => into_lt h, fun _ _ h => SqT.updT (ι := ι) (n := n) (.fresh hp) h, fun a xs h => by
    have ne := ne_of_none h.1 hp
    exact ⟨by rw [upd_ne ne]; exact h.1, into_nm h.2 ne⟩, fun a xs h => by
    obtain ⟨h | ⟨z, h⟩, hm⟩ := h
    · have ne := ne_of_none h hp
      exact ⟨.inl (by rw [upd_ne ne]; exact h), into_nm hm ne⟩
    · have ne := ne_of_none h hp
      exact ⟨.inr ⟨z, by rw [upd_ne ne]; exact h⟩, into_nm hm ne⟩, frz_upd (ι := ι) (n := n) (.fresh hp), fun a v h1 h2 h3 => by
    have ne := ne_of_none h3 hp
    refine ⟨by rw [upd_ne ne]; exact h3, .inl h1, fun i hi e => ?_⟩
    by_cases h : i = n
    · subst h
      rw [into_eq] at e
      exact ne e.symm
    · have hi' : i < n := by omega
      rw [into_lt hi'] at e
      exact h2 i hi' e⟩
theorem Sim.push {p : Addr} {u : HO} {o : Ob} (S : Sim K ι G H) (hp : H p = none) (ho : ORep K (into ι G.length p) (G.length + 1) (upd H p u) o p) : Sim K (into ι G.length p) (G ++ [o]) (upd H p u) := by
  have there : ∀ i, i < G.length → ∃ v, H (ι i) = some v := fun i hi => by
    obtain ⟨v, h, _⟩ := (S.obj i _ (List.getElem?_eq_getElem hi)).there
    exact ⟨v, h⟩
  have hne : ∀ i, i < G.length → ι i ≠ p := fun i hi e => by
    obtain ⟨v, h⟩ := there i hi
    rw [e, hp] at h
    cases h
  refine ⟨fun i j hi hj e => ?_, fun i hi => ?_, fun a m => ?_, fun i o' e => ?_⟩
  rotate_left
  · rw [List.length_append, List.length_singleton] at hi
    by_cases h1 : i = G.length
    · subst h1
      exact .inr into_eq
    · have hi' : i < G.length := by omega
      rw [into_lt hi']
      exact .inl (S.mu i hi')
  · rcases m with m | m
    · exact dom_upd S.dom a m
    · rw [m]
      exact ⟨u, upd_same⟩
  rotate_right
  · rw [List.length_append, List.length_singleton] at hi hj
    by_cases h1 : i = G.length
    · by_cases h2 : j = G.length
      · rw [h1, h2]
      · have hj' : j < G.length := by omega
        rw [h1, into_eq, into_lt hj'] at e
        exact absurd e.symm (hne j hj')
    · have hi' : i < G.length := by omega
      by_cases h2 : j = G.length
      · rw [h2, into_eq, into_lt hi'] at e
        exact absurd e (hne i hi')
      · have hj' : j < G.length := by omega
        rw [into_lt hi', into_lt hj'] at e
        exact S.inj i j hi' hj' e
  · rw [List.length_append, List.length_singleton]
    by_cases h1 : i < G.length
    · rw [List.getElem?_append_left h1] at e
      rw [into_lt h1]
      exact (S.obj i o' e).ext (Ext.push hp) fun v hv => by rw [upd_ne (hne i h1)]; exact hv
    · have h2 : i = G.length := by
        have := (List.getElem?_eq_some_iff.mp e).1
        rw [List.length_append, List.length_singleton] at this
        omega
      subst h2
      rw [List.getElem?_append_right (Nat.le_refl _), Nat.sub_self] at e
      cases e
      rw [into_eq]
      exact ho
/-- an object is changed -/
theorem Sim.set {i : Nat} {u : HO} {o o' : Ob} (S : Sim K ι G H) (hi : G[i]? = some o') (hf : o'.free = true) (ho : ORep K ι G.length (upd H (ι i) u) o (ι i)) : Sim K ι (G.set i o) (upd H (ι i) u) ∧ Ext K ι G.length H ι (G.set i o).length (upd H (ι i) u) := by
  obtain ⟨v, hv, mv⟩ := (S.obj i o' hi).there
  have hlt : i < G.length := (List.getElem?_eq_some_iff.mp hi).1
  have x : Ext K ι G.length H ι G.length (upd H (ι i) u) := Ext.updE (S.fr hi hv (mv hf))
  refine ⟨⟨fun a b ha hb => by rw [List.length_set] at ha hb; exact S.inj a b ha hb, fun j hj => S.mu j (by rw [List.length_set] at hj; exact hj), dom_upd S.dom, fun j w e => ?_⟩, by rw [List.length_set]; exact x⟩
  rw [List.length_set]
  by_cases hj : j = i
  · subst hj
    rw [List.getElem?_set_self hlt] at e
    cases e
    exact ho
  · rw [List.getElem?_set_ne (Ne.symm hj)] at e
    have hjl : j < G.length := (List.getElem?_eq_some_iff.mp e).1
    exact (S.obj j w e).ext x fun z hz => by rw [upd_ne fun q => hj (S.inj j i hjl hlt q)]; exact hz
end
/-! ### the frame's names -/
section
variable (K : PySem.W.Frag) (ι : Vw) (n : Nat) (H : Hp)
def Slots : Env1 → L2.St → Prop
  | [], σ => σ = []
  | v :: ρ, σ => ∃ y ys, σ = y :: ys ∧ (∀ w, v = some w → ∃ x, y = some x ∧ Rep K ι n H w x) ∧ Slots ρ ys
end
section
variable {K : PySem.W.Frag} {ι ι' : Vw} {n n' : Nat} {H H' : Hp}
theorem Slots.ext0 (e : Ext0 K ι n H ι' n' H') : ∀ {ρ : Env1} {σ : L2.St}, Slots K ι n H ρ σ → Slots K ι' n' H' ρ σ
  | [], _, h => h
  | _ :: _, _, ⟨y, ys, h1, h2, h3⟩ => ⟨y, ys, h1, fun w hw => let ⟨x, e1, e2⟩ := h2 w hw; ⟨x, e1, e2.ext0 e⟩, Slots.ext0 e h3⟩
theorem Slots.ext (e : Ext K ι n H ι' n' H') {ρ : Env1} {σ : L2.St} (h : Slots K ι n H ρ σ) : Slots K ι' n' H' ρ σ := h.ext0 e.e0
theorem Slots.get : ∀ {ρ : Env1} {σ : L2.St} {i : Nat} {v : Val}, Slots K ι n H ρ σ → ρ[i]? = some (some v) → ∃ x, σ[i]? = some (some x) ∧ Rep K ι n H v x
  | [], _, _, _, _, e => by simp at e
  | w :: l, _, 0, v, ⟨y, ys, h1, h2, _⟩, e => by
    rw [List.getElem?_cons_zero] at e
    obtain ⟨x, e1, e2⟩ := h2 v (Option.some.inj e)
    exact ⟨x, by rw [h1, e1]; rfl, e2⟩
  | w :: l, _, i + 1, v, ⟨y, ys, h1, _, h3⟩, e => by
    rw [List.getElem?_cons_succ] at e
    obtain ⟨x, e1, e2⟩ := Slots.get h3 e
    exact ⟨x, by rw [h1, List.getElem?_cons_succ]; exact e1, e2⟩
theorem Slots.set {v : Val} {x : V} (r : Rep K ι n H v x) : ∀ {ρ : Env1} {σ : L2.St} (i : Nat), Slots K ι n H ρ σ → Slots K ι n H (ρ.set i (some v)) (σ.set i (some x))
  | [], _, i, h => by rw [show _ = [] from h]; cases i <;> exact rfl
  | _ :: _, _, 0, ⟨y, ys, h1, _, h3⟩ => by rw [h1]; exact ⟨some x, ys, rfl, fun w hw => ⟨x, rfl, by cases hw; exact r⟩, h3⟩
  | _ :: _, _, i + 1, ⟨y, ys, h1, h2, h3⟩ => by rw [h1]; exact ⟨y, ys.set i (some x), rfl, h2, Slots.set r i h3⟩
/-- forgetting a name -/
theorem Slots.drop : ∀ {ρ : Env1} {σ : L2.St} (i : Nat) (z : Option V), Slots K ι n H ρ σ → Slots K ι n H (ρ.set i none) (σ.set i z)
  | [], _, i, _, h => by rw [show _ = [] from h]; cases i <;> exact rfl
  | _ :: _, _, 0, z, ⟨y, ys, h1, _, h3⟩ => by rw [h1]; exact ⟨z, ys, rfl, fun w hw => (by cases hw), h3⟩
  | _ :: _, _, i + 1, z, ⟨y, ys, h1, h2, h3⟩ => by rw [h1]; exact ⟨y, ys.set i z, rfl, h2, Slots.drop i z h3⟩
theorem Slots.length : ∀ {ρ : Env1} {σ : L2.St}, Slots K ι n H ρ σ → σ.length = ρ.length
  | [], _, h => by rw [show _ = [] from h]; rfl
  | _ :: _, _, ⟨y, ys, h1, _, h3⟩ => by rw [h1]; exact congrArg Nat.succ (Slots.length h3)
end
/-! ### what is wanted behind a run -/
section
variable (K : PySem.W.Frag) (E : XK) (ι : Vw) (n : Nat) (H : Hp)
def Post {α : Type} (r : Res α) (k : Vw → Store → Hp → α → Prop) : Prop := match r with
  | .ok v G' => ∀ ι' H', Ext K ι n H ι' G'.length H' → Sim K ι' G' H' → k ι' G' H' v
  | .exc c G' => ∀ ι' H', Ext K ι n H ι' G'.length H' → Sim K ι' G' H' → E (.ref (He.ga K c)) none H'
  | .bad => False
end
section
variable {K : PySem.W.Frag} {E : XK} {ι ι' : Vw} {n n' : Nat} {H H' : Hp} {α β : Type}
theorem Post.mono {r : Res α} {k k' : Vw → Store → Hp → α → Prop} (h : Post K E ι n H r k) (m : ∀ ι' G' H' v, Ext K ι n H ι' G'.length H' → Sim K ι' G' H' → k ι' G' H' v → k' ι' G' H' v) : Post K E ι n H r k' := by
  cases r with
  | ok v G' => exact fun ι' H' e s => m ι' G' H' v e s (h ι' H' e s)
  | exc c G' => exact h
  | bad => exact h
theorem Post.ext {r : Res α} {k : Vw → Store → Hp → α → Prop} (x : Ext K ι n H ι' n' H') (h : Post K E ι n H r k) : Post K E ι' n' H' r k := by
  cases r with
  | ok v G' => exact fun ι2 H2 e s => h ι2 H2 (x.trans e) s
  | exc c G' => exact fun ι2 H2 e s => h ι2 H2 (x.trans e) s
  | bad => exact h
theorem Post.bind {r : Res α} {f : α → Store → Res β} {k : Vw → Store → Hp → β → Prop} (h : Post K E ι n H (r.bind f) k) : Post K E ι n H r fun ι' G' H' v => Post K E ι' G'.length H' (f v G') k := by
  cases r with
  | ok v G' => exact fun ι' H' e s => Post.ext e h
  | exc c G' => exact h
  | bad => exact h
theorem Post.here {v : α} {G : Store} {k : Vw → Store → Hp → α → Prop} (S : Sim K ι G H) (h : Post K E ι G.length H (.ok v G) k) : k ι G H v := h ι H .refl S
end
/-- the reading of an expression, a test, arguments -/
def tE (K : PySem.W.Frag) (E : XK) (m : EM) : TE := fun σ H Q => ∃ ι G ρ, Sim K ι G H ∧ Slots K ι G.length H ρ σ ∧ Post K E ι G.length H (m ρ G) fun ι' G' H' v => ∀ x, Rep K ι' G'.length H' v x → Q x H'
def tT (K : PySem.W.Frag) (E : XK) (m : TM) : TT := fun σ H Q => ∃ ι G ρ, Sim K ι G H ∧ Slots K ι G.length H ρ σ ∧ Post K E ι G.length H (m ρ G) fun ι' G' H' b => Q b H'
def tA (K : PySem.W.Frag) (E : XK) (m : AM) : TA := fun σ H Q => ∃ ι G ρ, Sim K ι G H ∧ Slots K ι G.length H ρ σ ∧ Post K E ι G.length H (m ρ G) fun ι' G' H' vs => ∀ xs, Reps K ι' G'.length H' vs xs → Q xs H'
abbrev RE (X : Cx) (E : XK) (e : Expr) (m : EM) : Prop := PE X e (tE X.K E m)
abbrev RT (X : Cx) (E : XK) (e : Expr) (m : TM) : Prop := PT X e (tT X.K E m)
abbrev RW (X : Cx) (E : XK) (e : Expr) (m : TM) : Prop := PW X e (tT X.K E m)
abbrev RA (X : Cx) (E : XK) (es : List Expr) (m : AM) : Prop := PA X es (tA X.K E m)
/-! ### weaker readings -/
section
variable {X : Cx} {e : Expr} {es : List Expr} {st : Stmt} {sts : List Stmt}
theorem pe_weak {t t' : TE} (h : PE X e t) (w : ∀ σ H Q, t' σ H Q → t σ H Q) : PE X e t' := ⟨fun pins s σ H Q I q => h.run pins s σ H Q I (w σ H Q q)⟩
theorem pt_weak {t t' : TT} (h : PT X e t) (w : ∀ σ H Q, t' σ H Q → t σ H Q) : PT X e t' := ⟨fun pins s σ H Q I q => h.run pins s σ H Q I (w σ H Q q)⟩
theorem pw_weak {t t' : TT} (h : PW X e t) (w : ∀ σ H Q, t' σ H Q → t σ H Q) : PW X e t' := ⟨fun wh pins s σ H Q I q => h.run wh pins s σ H Q I (w σ H Q q)⟩
theorem pa_weak {t t' : TA} (h : PA X es t) (w : ∀ σ H Q, t' σ H Q → t σ H Q) : PA X es t' := ⟨fun pos pins s σ H Q I q => h.run pos pins s σ H Q I (w σ H Q q)⟩
theorem ps_weak {t t' : TS} (h : PS X st t) (w : ∀ D σ H, t' D σ H → t D σ H) : PS X st t' := ⟨fun pins s σ H D I q => h.run pins s σ H D I (w D σ H q)⟩
theorem pss_weak {t t' : TS} (h : PSs X sts t) (w : ∀ D σ H, t' D σ H → t D σ H) : PSs X sts t' := ⟨fun pins s σ H D I q => h.run pins s σ H D I (w D σ H q)⟩
end
/-! ### names, constants, two-place operators -/
def eVar (i : Nat) : EM := fun ρ G => match ρ[i]? with
  | some (some v) => .ok v G
  | _ => .bad
def eC (v : Val) : EM := fun _ G => .ok v G
/-- an operation on two values -/
abbrev F2 := Val → Val → Store → Res Val
def eOp (f : F2) (a b : EM) : EM := fun ρ G => (a ρ G).bind fun v G1 => (b ρ G1).bind fun u G2 => f v u G2
/-- the rule r on the heap says what f says on the store -/
def OpS (K : PySem.W.Frag) (E : XK) (r : R2) (f : F2) : Prop := ∀ (ι : Vw) (G : Store) (H : Hp) (v u : Val) (x y : V) (Q : VK), Sim K ι G H → Rep K ι G.length H v x → Rep K ι G.length H u y →
  Post K E ι G.length H (f v u G) (fun ι' G' H' w => ∀ z, Rep K ι' G'.length H' w z → Q z H') → r x y H Q
section
variable {X : Cx} {E : XK} {a b : Expr} {ma mb : EM} {pos : Pos}
theorem re_var {i : Nat} {x : Str} (hN : X.N[i]? = some x) (hv : Vis X.env.scope x) (hd : (x == ("__debug__" : Str)) = false := by decide) (hcd : (x == ("__classdict__" : Str)) = false := by decide) : RE X E (.Name x pos) (eVar i) := by
  refine pe_weak (pe_var hN hv hd hcd) fun σ H Q ⟨ι, G, ρ, S, sl, p⟩ => ?_
  unfold eVar at p
  cases e : ρ[i]? with
  | none => rw [e] at p; exact p.elim
  | some o =>
    cases o with
    | none => rw [e] at p; exact p.elim
    | some v =>
      rw [e] at p
      obtain ⟨x, e1, r⟩ := sl.get e
      exact ⟨x, e1, p.here S x r⟩
theorem re_int {i j} : RE X E (.Constant (.int i) j pos) (eC (.int i)) := pe_weak pe_int fun σ H Q ⟨ι, G, ρ, S, sl, p⟩ => p.here S _ rfl
theorem re_bl {i j} : RE X E (.Constant (.bool i) j pos) (eC (.bl i)) := pe_weak pe_bl fun σ H Q ⟨ι, G, ρ, S, sl, p⟩ => p.here S _ rfl
theorem re_non {j} : RE X E (.Constant .none j pos) (eC .non) := pe_weak pe_non fun σ H Q ⟨ι, G, ρ, S, sl, p⟩ => p.here S _ rfl
theorem re_str {i j} {k : Nat} (h : nm k = i := by decide +kernel) : RE X E (.Constant (.str i) j pos) (eC (.str k)) := pe_weak pe_str fun σ H Q ⟨ι, G, ρ, S, sl, p⟩ => p.here S _ (by rw [← h]; exact rfl)
/-- two expressions, one behind the other -/
theorem two {σ : L2.St} {H : Hp} {f : Val → Val → Store → Res Val} {R : V → V → Hp → Prop} {Q : VK} (h : tE X.K E (eOp f ma mb) σ H Q)
    (hr : ∀ ι G H' v u x y, Sim X.K ι G H' → Rep X.K ι G.length H' v x → Rep X.K ι G.length H' u y → Post X.K E ι G.length H' (f v u G) (fun ι' G' H' w => ∀ z, Rep X.K ι' G'.length H' w z → Q z H') → R x y H') :
    tE X.K E ma σ H fun x H1 => tE X.K E mb σ H1 fun y H2 => R x y H2 := by
  obtain ⟨ι, G, ρ, S, sl, p⟩ := h
  refine ⟨ι, G, ρ, S, sl, (Post.bind p).mono fun ι1 G1 H1 v x1 S1 p1 x rx => ⟨ι1, G1, ρ, S1, sl.ext x1, (Post.bind p1).mono fun ι2 G2 H2 u x2 S2 p2 y ry => hr ι2 G2 H2 v u x y S2 (rx.ext x2) ry p2⟩⟩
theorem re_op {op : Operator} {r : R2} {f : F2} (ho : OpR X (binaryOp op) r) (hs : OpS X.K E r f) (ha : RE X E a ma) (hb : RE X E b mb) : RE X E (.BinOp a op b pos) (eOp f ma mb) :=
  pe_weak (pe_op ho ha hb) fun σ H Q h => two h fun ι G H' v u x y S rx ry p => hs ι G H' v u x y Q S rx ry p
theorem re_cmp {op : CmpOp} {r : R2} {f : F2} (ho : OpR X (compareOp op) r) (hs : OpS X.K E r f) (ha : RE X E a ma) (hb : RE X E b mb) (hm : behindInMarks op b = false) : RE X E (.Compare a [op] [b] pos) (eOp f ma mb) :=
  pe_weak (pe_cmpR ho ha hb hm) fun σ H Q h => two h fun ι G H' v u x y S rx ry p => hs ι G H' v u x y Q S rx ry p
def orF (f g : F2) : F2 := fun v u G => match f v u G with
  | .bad => g v u G
  | r => r
theorem OpS.or {r r' : R2} {f g : F2} (h : OpS X.K E r f) (h' : OpS X.K E r' g) : OpS X.K E (fun x y H Q => r x y H Q ∨ r' x y H Q) (orF f g) := by
  intro ι G H v u x y Q S rx ry p
  unfold orF at p
  cases e : f v u G with
  | bad =>
    rw [e] at p
    exact .inr (h' ι G H v u x y Q S rx ry p)
  | ok w G' =>
    rw [e] at p
    exact .inl (h ι G H v u x y Q S rx ry (by rw [e]; exact p))
  | exc c G' =>
    rw [e] at p
    exact .inl (h ι G H v u x y Q S rx ry (by rw [e]; exact p))
end
end R1
/-! R1b: operators on values: sums, products, equality, order, membership. -/
namespace R1
open PySem PySem.Spec PyProof.Rows L2
/-! ### ints -/
def fI (c : Int → Int → Bool) (g : Int → Int → Val) : F2 := fun v u G => match v, u with
  | .int i, .int j => if c i j = true then .ok (g i j) G else .bad
  | _, _ => .bad
/-- a plain value as it lies -/
def pv1 : Val → V
  | .bl b => .bl b
  | .int i => .int i
  | .str s => .str (nm s)
  | _ => .non
def plain1 : Val → Bool
  | .non => true
  | .bl _ => true
  | .int _ => true
  | .str _ => true
  | _ => false
section
variable {K : PySem.W.Frag} {E : XK} {ι : Vw} {n : Nat} {H : Hp}
theorem rep_plain {v : Val} {x : V} (h : plain1 v = true) : Rep K ι n H v x ↔ x = pv1 v := by
  cases v <;> first | rfl | cases h | exact Iff.rfl
theorem fI_inv {c : Int → Int → Bool} {g : Int → Int → Val} {v u : Val} {G : Store} {k : Vw → Store → Hp → Val → Prop} (h : Post K E ι n H (fI c g v u G) k) : ∃ i j, v = .int i ∧ u = .int j ∧ c i j = true ∧ Post K E ι n H (.ok (g i j) G) k := by
  unfold fI at h
  cases v with
  | int i =>
    cases u with
    | int j =>
      by_cases e : c i j = true
      · exact ⟨i, j, rfl, rfl, e, by simpa only [if_pos e] using h⟩
      · have h2 : Post K E ι n H (if c i j = true then Res.ok (g i j) G else Res.bad) k := h
        rw [if_neg e] at h2
        exact h2.elim
    | _ => exact h.elim
  | _ => exact h.elim
theorem opS_rI {C : Int → Int → Prop} {c : Int → Int → Bool} {g : Int → Int → V} {g' : Int → Int → Val} (hc : ∀ i j, c i j = true → C i j) (hg : ∀ i j, plain1 (g' i j) = true ∧ g i j = pv1 (g' i j)) : OpS K E (rI C g) (fI c g') := by
  intro ι G H v u x y Q S rx ry p
  obtain ⟨i, j, rfl, rfl, e, p⟩ := fI_inv p
  refine ⟨i, j, rx, ry, hc i j e, p.here S _ ?_⟩
  rw [(hg i j).2]
  exact (rep_plain (hg i j).1).mpr rfl
theorem opS_rI0 {g : Int → Int → V} {g' : Int → Int → Val} (hg : ∀ i j, plain1 (g' i j) = true ∧ g i j = pv1 (g' i j)) : OpS K E (rI0 g) (fI (fun _ _ => true) g') := by
  intro ι G H v u x y Q S rx ry p
  obtain ⟨i, j, rfl, rfl, e, p⟩ := fI_inv p
  refine ⟨i, j, rx, ry, p.here S _ ?_⟩
  rw [(hg i j).2]
  exact (rep_plain (hg i j).1).mpr rfl
end
abbrev tr2 : Int → Int → Bool := fun _ _ => true
def fSub : F2 := fI tr2 fun i j => .int (i - j)
def inRng (i : Int) : Bool := decide (-(2 ^ 64) < i) && decide (i < 2 ^ 64)
def fMulI : F2 := fI (fun i j => inRng i || inRng j) fun i j => .int (i * j)
def fDiv : F2 := fI (fun _ j => decide (0 < j) && decide (j < 1073741824)) fun i j => .int (i / j)
def fMod : F2 := fI (fun _ j => decide (0 < j)) fun i j => .int (i % j)
def fPow : F2 := fI (fun i j => decide (0 ≤ j) && (decide (j ≤ 1000000) && decide (i.natAbs < 2 ^ 64))) fun i j => .int (i ^ j.toNat)
def fAddI : F2 := fI tr2 fun i j => .int (i + j)
def fLt : F2 := fI tr2 fun i j => .bl (decide (i < j))
def fLe : F2 := fI tr2 fun i j => .bl (decide (i ≤ j))
def fGt : F2 := fI tr2 fun i j => .bl (decide (j < i))
def fGe : F2 := fI tr2 fun i j => .bl (decide (j ≤ i))
section
variable {K : PySem.W.Frag} {E : XK}
theorem s_sub : OpS K E (rI0 fun i j => .int (i - j)) fSub := opS_rI0 fun _ _ => ⟨rfl, rfl⟩
theorem s_addI : OpS K E (rI0 fun i j => .int (i + j)) fAddI := opS_rI0 fun _ _ => ⟨rfl, rfl⟩
theorem s_mulI : OpS K E (rI CMul fun i j => .int (i * j)) fMulI := opS_rI (fun i j h => by
  rcases (Bool.or_eq_true _ _).mp h with h | h
  · obtain ⟨a, b⟩ := Bool.and_eq_true_iff.mp h
    exact .inl ⟨of_decide_eq_true a, of_decide_eq_true b⟩
  · obtain ⟨a, b⟩ := Bool.and_eq_true_iff.mp h
    exact .inr ⟨of_decide_eq_true a, of_decide_eq_true b⟩) fun _ _ => ⟨rfl, rfl⟩
theorem s_div : OpS K E (rI CDiv fun i j => .int (i / j)) fDiv := opS_rI (fun i j h => by
  obtain ⟨a, b⟩ := Bool.and_eq_true_iff.mp h
  exact ⟨of_decide_eq_true a, of_decide_eq_true b⟩) fun _ _ => ⟨rfl, rfl⟩
theorem s_mod : OpS K E (rI (fun _ j => 0 < j) fun i j => .int (i % j)) fMod := opS_rI (fun i j h => of_decide_eq_true h) fun _ _ => ⟨rfl, rfl⟩
theorem s_pow : OpS K E (rI CPow fun i j => .int (i ^ j.toNat)) fPow := opS_rI (fun i j h => by
  obtain ⟨a, b⟩ := Bool.and_eq_true_iff.mp h
  obtain ⟨b, c⟩ := Bool.and_eq_true_iff.mp b
  exact ⟨of_decide_eq_true a, of_decide_eq_true b, of_decide_eq_true c⟩) fun _ _ => ⟨rfl, rfl⟩
theorem s_lt : OpS K E (rI0 fun i j => .bl (decide (i < j))) fLt := opS_rI0 fun _ _ => ⟨rfl, rfl⟩
theorem s_le : OpS K E (rI0 fun i j => .bl (decide (i ≤ j))) fLe := opS_rI0 fun _ _ => ⟨rfl, rfl⟩
theorem s_gt : OpS K E (rI0 fun i j => .bl (decide (j < i))) fGt := opS_rI0 fun _ _ => ⟨rfl, rfl⟩
theorem s_ge : OpS K E (rI0 fun i j => .bl (decide (j ≤ i))) fGe := opS_rI0 fun _ _ => ⟨rfl, rfl⟩
end
/-! ### lists, tuples: +, * -/
/-- a new object -/
def alloc (o : Ob) (G : Store) : Res Val := .ok (.obj G.length) (G ++ [o])
section
variable {K : PySem.W.Frag} {E : XK} {ι : Vw} {n : Nat} {G : Store} {H : Hp}
/-- a new list -/
theorem post_lst {l : List Val} {xs : List V} {Q : VK} (S : Sim K ι G H) (r : Reps K ι G.length H l xs) (p : Post K E ι G.length H (alloc (.lst l) G) (fun ι' G' H' w => ∀ z, Rep K ι' G'.length H' w z → Q z H')) :
    ∀ q, H q = none → Q (.ref q) (L2.upd H q (.lst xs)) := fun q hq => by
  have e : Ext K ι G.length H (into ι G.length q) (G ++ [Ob.lst l]).length (L2.upd H q (.lst xs)) := by
    rw [List.length_append, List.length_singleton]
    exact Ext.push hq
  have e1 : Ext K ι G.length H (into ι G.length q) (G.length + 1) (L2.upd H q (.lst xs)) := Ext.push hq
  refine p (into ι G.length q) _ e (S.push hq ⟨xs, upd_same, r.ext e1⟩) _ ⟨?_, ?_⟩
  · rw [List.length_append, List.length_singleton]
    exact Nat.lt_succ_self _
  · rw [into_eq]
/-- a new tuple -/
theorem post_tup {l : List Val} {xs : List V} {Q : VK} (S : Sim K ι G H) (r : Reps K ι G.length H l xs) (p : Post K E ι G.length H (.ok (.tup l) G) (fun ι' G' H' w => ∀ z, Rep K ι' G'.length H' w z → Q z H')) :
    ∀ q, H q = none → Q (.ref q) (L2.upd H q (.tup xs)) := fun q hq => by
  have e : Ext K ι G.length H ι G.length (L2.upd H q (.tup xs)) := Ext.updE (.fresh hq)
  exact p ι _ e (S.junk hq) _ ⟨q, xs, rfl, .of upd_same, r.ext e⟩
/-- a new list that is never changed -/
theorem post_fro {l : List Val} {xs : List V} {Q : VK} (S : Sim K ι G H) (r : Reps K ι G.length H l xs) (p : Post K E ι G.length H (.ok (.fro l) G) (fun ι' G' H' w => ∀ z, Rep K ι' G'.length H' w z → Q z H')) :
    ∀ q, H q = none → Q (.ref q) (L2.upd H q (.lst xs)) := fun q hq => by
  have e : Ext K ι G.length H ι G.length (L2.upd H q (.lst xs)) := Ext.updE (.fresh hq)
  exact p ι _ e (S.junk hq) _ ⟨q, xs, rfl, ⟨upd_same, S.nm hq⟩, r.ext e⟩
/-- a new list: it may change (false), it never does (true) -/
def mkL (z : Bool) (l : List Val) (G : Store) : Res Val := match z with
  | true => .ok (.fro l) G
  | false => alloc (.lst l) G
def mkD (z : Bool) (l : List (Ky × Val)) (G : Store) : Res Val := match z with
  | true => .ok (.frd l) G
  | false => alloc (.dic l) G
theorem post_mkL {z : Bool} {l : List Val} {xs : List V} {Q : VK} (S : Sim K ι G H) (r : Reps K ι G.length H l xs) (p : Post K E ι G.length H (mkL z l G) (fun ι' G' H' w => ∀ z, Rep K ι' G'.length H' w z → Q z H')) :
    ∀ q, H q = none → Q (.ref q) (L2.upd H q (.lst xs)) := by
  cases z with
  | true => exact post_fro S r p
  | false => exact post_lst S r p
/-- a new dict that is never changed -/
theorem post_frd {l : List (Ky × Val)} {xs : List (Key × V)} {Q : VK} (S : Sim K ι G H) (r : KReps K ι G.length H l xs) (p : Post K E ι G.length H (.ok (.frd l) G) (fun ι' G' H' w => ∀ z, Rep K ι' G'.length H' w z → Q z H')) :
    ∀ q, H q = none → Q (.ref q) (L2.upd H q (.dK xs)) := fun q hq => by
  have e : Ext K ι G.length H ι G.length (L2.upd H q (.dK xs)) := Ext.updE (.fresh hq)
  exact p ι _ e (S.junk hq) _ ⟨q, xs, rfl, ⟨.inl upd_same, S.nm hq⟩, r.ext e⟩
theorem Sim.lst {i : Nat} {l : List Val} (S : Sim K ι G H) (h : G[i]? = some (.lst l)) : ∃ xs, H (ι i) = some (.lst xs) ∧ Reps K ι G.length H l xs := S.obj i _ h
theorem Sim.dic {i : Nat} {l : List (Ky × Val)} (S : Sim K ι G H) (h : G[i]? = some (.dic l)) : ∃ xs, H (ι i) = some (.dK xs) ∧ KReps K ι G.length H l xs := S.obj i _ h
theorem Sim.ins {i : Nat} {c : Nat} {l : List Val} (S : Sim K ι G H) (h : G[i]? = some (.ins c l)) : ClsOk K c ∧ ∃ dx xs, H (ι i) = some (.ins (He.ga K (cname c)) dx xs) ∧ FReps K ι G.length H (cfields c) l xs := S.obj i _ h
end
/-- a list's items (not the script's) -/
def lstOf (G : Store) : Val → Option (List Val)
  | .fro l => some l
  | .obj i => match G[i]? with
    | some (.lst l) => some l
    | _ => none
  | _ => none
theorem lstOf_at {K : PySem.W.Frag} {ι : Vw} {G : Store} {H : Hp} {v : Val} {x : V} {l : List Val} (S : Sim K ι G H) (r : Rep K ι G.length H v x) (h : lstOf G v = some l) : ∃ a xs, x = .ref a ∧ H a = some (.lst xs) ∧ Reps K ι G.length H l xs := by
  unfold lstOf at h
  cases v with
  | fro m =>
    cases h
    obtain ⟨a, xs, e, h1, h2⟩ := r
    exact ⟨a, xs, e, h1.1, h2⟩
  | obj i =>
    dsimp only at h
    cases e0 : G[i]? with
    | none => rw [e0] at h; cases h
    | some o =>
      rw [e0] at h
      cases o with
      | lst m =>
        cases h
        obtain ⟨xs, h1, h2⟩ := S.lst e0
        exact ⟨ι i, xs, r.2, h1, h2⟩
      | _ => cases h
  | _ => cases h
def fCat (z : Bool) : F2 := fun v u G => match lstOf G v, lstOf G u with
  | some a, some b => if a.length + b.length ≤ sizeLine then mkL z (a ++ b) G else .bad
  | _, _ => .bad
def fCatT : F2 := fun v u G => match v, u with
  | .tup a, .tup b => if a.length + b.length ≤ sizeLine then .ok (.tup (a ++ b)) G else .bad
  | _, _ => .bad
def fRep (z : Bool) : F2 := fun v u G => match lstOf G v, u with
  | some a, .int k => if -(2 ^ 63) ≤ k ∧ k < 2 ^ 63 ∧ a.length * k.toNat ≤ sizeLine then mkL z (List.replicate k.toNat a).flatten G else .bad
  | _, _ => .bad
section
variable {K : PySem.W.Frag} {E : XK} {ι : Vw} {n : Nat} {H : Hp}
theorem Reps.replicate {l : List Val} {xs : List V} (r : Reps K ι n H l xs) : ∀ k : Nat, Reps K ι n H (List.replicate k l).flatten (List.replicate k xs).flatten
  | 0 => rfl
  | k + 1 => by
    rw [List.replicate_succ, List.replicate_succ, List.flatten_cons, List.flatten_cons]
    exact r.append (Reps.replicate r k)
theorem s_cat {z : Bool} : OpS K E rCat (fCat z) := by
  intro ι G H v u x y Q S rx ry p
  unfold fCat at p
  cases e1 : lstOf G v with
  | none => rw [e1] at p; exact p.elim
  | some a =>
    cases e2 : lstOf G u with
    | none => rw [e1, e2] at p; exact p.elim
    | some b =>
      rw [e1, e2] at p
      dsimp only at p
      by_cases hl : a.length + b.length ≤ sizeLine
      · rw [if_pos hl] at p
        obtain ⟨c, xs, ex, h1, r1⟩ := lstOf_at S rx e1
        obtain ⟨d, ys, ey, h2, r2⟩ := lstOf_at S ry e2
        exact ⟨c, d, xs, ys, ex, ey, h1, h2, by rw [r1.length, r2.length]; exact hl, post_mkL S (r1.append r2) p⟩
      · rw [if_neg hl] at p
        exact p.elim
theorem s_catT : OpS K E (rCatA K) fCatT := by
  intro ι G H v u x y Q S rx ry p
  unfold fCatT at p
  cases v with
  | tup a =>
    cases u with
    | tup b =>
      have p2 : Post K E ι G.length H (if a.length + b.length ≤ sizeLine then .ok (.tup (a ++ b)) G else .bad) (fun ι' G' H' w => ∀ z, Rep K ι' G'.length H' w z → Q z H') := p
      by_cases hl : a.length + b.length ≤ sizeLine
      · rw [if_pos hl] at p2
        obtain ⟨p1, xs, ex, h1, r1⟩ := rx
        obtain ⟨q1, ys, ey, h2, r2⟩ := ry
        refine ⟨p1, q1, xs, ys, ex, ey, h1, h2, by rw [r1.length, r2.length]; exact hl, fun e0 => ?_, fun e0 e1 => ?_, fun e0 e1 => post_tup S (r1.append r2) p2⟩
        · have : a = [] := List.eq_nil_of_length_eq_zero (by rw [← r1.length, e0]; rfl)
          subst this
          exact p2.here S _ ⟨q1, ys, rfl, h2, r2⟩
        · have : b = [] := List.eq_nil_of_length_eq_zero (by rw [← r2.length, e1]; rfl)
          subst this
          rw [List.append_nil] at p2
          exact p2.here S _ ⟨p1, xs, rfl, h1, r1⟩
      · rw [if_neg hl] at p2
        exact p2.elim
    | _ => exact p.elim
  | _ => exact p.elim
theorem s_rep {z : Bool} : OpS K E rRep (fRep z) := by
  intro ι G H v u x y Q S rx ry p
  unfold fRep at p
  cases e1 : lstOf G v with
  | none => rw [e1] at p; exact p.elim
  | some a =>
    rw [e1] at p
    cases u with
    | int k =>
      dsimp only at p
      by_cases hl : -(2 ^ 63) ≤ k ∧ k < 2 ^ 63 ∧ a.length * k.toNat ≤ sizeLine
      · rw [if_pos hl] at p
        obtain ⟨c, xs, ex, h1, r1⟩ := lstOf_at S rx e1
        exact ⟨c, k, xs, ex, ry, h1, hl.1, hl.2.1, by rw [r1.length]; exact hl.2.2, post_mkL S (r1.replicate _) p⟩
      · rw [if_neg hl] at p
        exact p.elim
    | _ => exact p.elim
end
/-- + of ints, lists, tuples; * of ints, of a list -/
def fAdd (z : Bool) : F2 := orF fAddI (orF (fCat z) fCatT)
def fMul (z : Bool) : F2 := orF fMulI (fRep z)
section
variable {X : Cx} {E : XK} {a b : Expr} {ma mb : EM} {pos : Pos}
theorem re_add {z : Bool} (ha : RE X E a ma) (hb : RE X E b mb) : RE X E (.BinOp a .Add b pos) (eOp (fAdd z) ma mb) := re_op (op_add.or (op_cat.or op_catA)) (s_addI.or (s_cat.or s_catT)) ha hb
theorem re_sub (ha : RE X E a ma) (hb : RE X E b mb) : RE X E (.BinOp a .Sub b pos) (eOp fSub ma mb) := re_op op_sub s_sub ha hb
theorem re_mul {z : Bool} (ha : RE X E a ma) (hb : RE X E b mb) : RE X E (.BinOp a .Mult b pos) (eOp (fMul z) ma mb) := re_op (op_mul.or op_rep) (s_mulI.or s_rep) ha hb
theorem re_div (ha : RE X E a ma) (hb : RE X E b mb) : RE X E (.BinOp a .FloorDiv b pos) (eOp fDiv ma mb) := re_op op_fdiv s_div ha hb
theorem re_mod (ha : RE X E a ma) (hb : RE X E b mb) : RE X E (.BinOp a .Mod b pos) (eOp fMod ma mb) := re_op op_mod s_mod ha hb
theorem re_pow (ha : RE X E a ma) (hb : RE X E b mb) : RE X E (.BinOp a .Pow b pos) (eOp fPow ma mb) := re_op op_pow s_pow ha hb
end
/-! ### is -/
def isNon : Val → Bool
  | .non => true
  | _ => false
def fIsN : F2 := fun v u G => match u with
  | .non => .ok (.bl (isNon v)) G
  | _ => .bad
def fNotN : F2 := fun v u G => match u with
  | .non => .ok (.bl (!isNon v)) G
  | _ => .bad
def fIsB : F2 := fun v u G => match v, u with
  | .bl a, .bl b => .ok (.bl (a == b)) G
  | _, _ => .bad
def fNotB : F2 := fun v u G => match v, u with
  | .bl a, .bl b => .ok (.bl (!(a == b))) G
  | _, _ => .bad
section
variable {K : PySem.W.Frag} {E : XK} {ι : Vw} {n : Nat} {H : Hp}
theorem rep_non {v : Val} {x : V} (h : Rep K ι n H v x) : decide (x = .non) = isNon v := by
  cases v with
  | non => rw [show x = .non from h]; rfl
  | bl b => rw [show x = .bl b from h]; rfl
  | int i => rw [show x = .int i from h]; rfl
  | str s => rw [show x = .str (nm s) from h]; rfl
  | tup l => obtain ⟨a, xs, e, _⟩ := h; rw [e]; rfl
  | fro l => obtain ⟨a, xs, e, _⟩ := h; rw [e]; rfl
  | scr l => obtain ⟨a, xs, e, _⟩ := h; rw [e]; rfl
  | frd l => obtain ⟨a, xs, e, _⟩ := h; rw [e]; rfl
  | obj i => rw [h.2]; rfl
theorem s_isN : OpS K E (fun x y H Q => y = .non ∧ Q (.bl (decide (x = .non))) H) fIsN := by
  intro ι G H v u x y Q S rx ry p
  unfold fIsN at p
  cases u with
  | non =>
    refine ⟨ry, ?_⟩
    rw [rep_non rx]
    exact p.here S _ rfl
  | _ => exact p.elim
theorem s_notN : OpS K E (fun x y H Q => y = .non ∧ Q (.bl (!decide (x = .non))) H) fNotN := by
  intro ι G H v u x y Q S rx ry p
  unfold fNotN at p
  cases u with
  | non =>
    refine ⟨ry, ?_⟩
    rw [rep_non rx]
    exact p.here S _ rfl
  | _ => exact p.elim
theorem s_isB : OpS K E rIsB fIsB := by
  intro ι G H v u x y Q S rx ry p
  unfold fIsB at p
  cases v with
  | bl a =>
    cases u with
    | bl b =>
      refine ⟨a, b, rx, ry, ?_⟩
      have q := p.here S _ rfl
      rw [show decide (a = b) = (a == b) by cases a <;> cases b <;> rfl]
      exact q
    | _ => exact p.elim
  | _ => exact p.elim
theorem s_notB : OpS K E rNotB fNotB := by
  intro ι G H v u x y Q S rx ry p
  unfold fNotB at p
  cases v with
  | bl a =>
    cases u with
    | bl b =>
      refine ⟨a, b, rx, ry, ?_⟩
      have q := p.here S _ rfl
      rw [show decide (a = b) = (a == b) by cases a <;> cases b <;> rfl]
      exact q
    | _ => exact p.elim
  | _ => exact p.elim
end
def fIs : F2 := orF fIsN fIsB
def fIsNot : F2 := orF fNotN fNotB
/-! ### data: ==, !=, in, not in -/
def optAll {α β : Type} (f : α → Option β) : List α → Option (List β)
  | [] => some []
  | a :: l => match f a, optAll f l with
    | some b, some r => some (b :: r)
    | _, _ => none
def toD (G : Store) : Nat → Val → Option PyData
  | _, .non => some .none
  | _, .bl b => some (.bool b)
  | _, .int i => some (.int i)
  | _, .str s => some (.str (nm s))
  | 0, .tup _ => none
  | 0, .fro _ => none
  | 0, .obj _ => none
  | _, .frd _ => none
  | _, .scr _ => none
  | k + 1, .tup l => (optAll (toD G k) l).map .tuple
  | k + 1, .fro l => (optAll (toD G k) l).map .list
  | k + 1, .obj i => match G[i]? with
    | some (.lst l) => (optAll (toD G k) l).map .list
    | _ => none
/-- the depth that is looked at -/
def dEq : Nat := 40
def fEq : F2 := fun v u G => match toD G dEq v, toD G dEq u with
  | some d, some e => .ok (.bl (PyData.eqv d e)) G
  | _, _ => .bad
def fNe : F2 := fun v u G => match toD G dEq v, toD G dEq u with
  | some d, some e => .ok (.bl (!PyData.eqv d e)) G
  | _, _ => .bad
def itemsOf (G : Store) : Val → Option (List Val)
  | .tup l => some l
  | .fro l => some l
  | .scr l => some l
  | .obj i => match G[i]? with
    | some (.lst l) => some l
    | _ => none
  | _ => none
def fIn (neg : Bool) : F2 := fun v u G => match toD G dEq v, (itemsOf G u).bind (optAll (toD G dEq)) with
  | some d, some es => .ok (.bl (neg != (es.any fun y => PyData.eqv y d))) G
  | _, _ => .bad
section
variable {K : PySem.W.Frag} {E : XK} {ι : Vw} {G : Store} {H : Hp}
theorem optAll_cons {α β : Type} {f : α → Option β} {a : α} {l : List α} {r : List β} (h : optAll f (a :: l) = some r) : ∃ b s, f a = some b ∧ optAll f l = some s ∧ r = b :: s := by
  unfold optAll at h
  cases e1 : f a with
  | none => rw [e1] at h; cases h
  | some b =>
    cases e2 : optAll f l with
    | none => rw [e1, e2] at h; cases h
    | some s => rw [e1, e2] at h; exact ⟨b, s, rfl, rfl, (Option.some.inj h).symm⟩
mutual
theorem depth_all : ∀ (ds : List PyData) (k : Nat), (∀ d ∈ ds, d.depth ≤ k) → PyData.depthAll ds ≤ k
  | [], k, _ => Nat.zero_le _
  | d :: ds, k, h => by
    show max d.depth (PyData.depthAll ds) ≤ k
    exact Nat.max_le.mpr ⟨h d (List.mem_cons_self ..), depth_all ds k fun e he => h e (List.mem_cons_of_mem _ he)⟩
end
theorem plain_all : ∀ (ds : List PyData), (∀ d ∈ ds, d.plain = true) → PyData.plainAll ds = true
  | [], _ => rfl
  | d :: ds, h => by
    show (d.plain && PyData.plainAll ds) = true
    rw [h d (List.mem_cons_self ..), plain_all ds fun e he => h e (List.mem_cons_of_mem _ he)]
    rfl
theorem optAll_mem {α β : Type} {f : α → Option β} : ∀ {l : List α} {r : List β}, optAll f l = some r → ∀ b ∈ r, ∃ a ∈ l, f a = some b
  | [], r, h, b, hb => by cases h; cases hb
  | a :: l, r, h, b, hb => by
    obtain ⟨c, s, e1, e2, rfl⟩ := optAll_cons h
    rcases List.mem_cons.mp hb with rfl | hb
    · exact ⟨a, List.mem_cons_self .., e1⟩
    · obtain ⟨z, hz, ez⟩ := optAll_mem e2 b hb
      exact ⟨z, List.mem_cons_of_mem _ hz, ez⟩
theorem toD_ok : ∀ (k : Nat) (v : Val) (d : PyData), toD G k v = some d → d.plain = true ∧ d.depth ≤ k
  | k, .non, d, h => by cases k <;> (cases h; exact ⟨rfl, Nat.zero_le _⟩)
  | k, .bl b, d, h => by cases k <;> (cases h; exact ⟨rfl, Nat.zero_le _⟩)
  | k, .int i, d, h => by cases k <;> (cases h; exact ⟨rfl, Nat.zero_le _⟩)
  | k, .str s, d, h => by cases k <;> (cases h; exact ⟨rfl, Nat.zero_le _⟩)
  | 0, .tup _, d, h => by cases h
  | 0, .fro _, d, h => by cases h
  | k, .frd _, d, h => by cases k <;> cases h
  | k, .scr _, d, h => by cases k <;> cases h
  | 0, .obj _, d, h => by cases h
  | k + 1, .tup l, d, h => by
    have h1 : (optAll (toD G k) l).map PyData.tuple = some d := h
    cases e : optAll (toD G k) l with
    | none => rw [e] at h1; cases h1
    | some ds =>
      rw [e] at h1
      cases h1
      have m := optAll_mem e
      refine ⟨plain_all ds fun x hx => ?_, ?_⟩
      · obtain ⟨a, _, ea⟩ := m x hx
        exact (toD_ok k a x ea).1
      · show PyData.depthAll ds + 1 ≤ k + 1
        exact Nat.succ_le_succ (depth_all ds k fun x hx => by
          obtain ⟨a, _, ea⟩ := m x hx
          exact (toD_ok k a x ea).2)
  | k + 1, .fro l, d, h => by
    have h1 : (optAll (toD G k) l).map PyData.list = some d := h
    cases e : optAll (toD G k) l with
    | none => rw [e] at h1; cases h1
    | some ds =>
      rw [e] at h1
      cases h1
      have m := optAll_mem e
      refine ⟨plain_all ds fun x hx => ?_, ?_⟩
      · obtain ⟨a, _, ea⟩ := m x hx
        exact (toD_ok k a x ea).1
      · show PyData.depthAll ds + 1 ≤ k + 1
        exact Nat.succ_le_succ (depth_all ds k fun x hx => by
          obtain ⟨a, _, ea⟩ := m x hx
          exact (toD_ok k a x ea).2)
  | k + 1, .obj i, d, h => by
    have h0 : (match G[i]? with | some (.lst l) => (optAll (toD G k) l).map PyData.list | _ => none) = some d := h
    cases e0 : G[i]? with
    | none => rw [e0] at h0; cases h0
    | some o =>
      rw [e0] at h0
      cases o with
      | lst l =>
        have h1 : (optAll (toD G k) l).map PyData.list = some d := h0
        cases e : optAll (toD G k) l with
        | none => rw [e] at h1; cases h1
        | some ds =>
          rw [e] at h1
          cases h1
          have m := optAll_mem e
          refine ⟨plain_all ds fun x hx => ?_, ?_⟩
          · obtain ⟨a, _, ea⟩ := m x hx
            exact (toD_ok k a x ea).1
          · show PyData.depthAll ds + 1 ≤ k + 1
            exact Nat.succ_le_succ (depth_all ds k fun x hx => by
              obtain ⟨a, _, ea⟩ := m x hx
              exact (toD_ok k a x ea).2)
      | _ => cases h0
theorem dp_all (k : Nat) (ih : ∀ v x d, Rep K ι G.length H v x → toD G k v = some d → Dp K H x d) : ∀ (l : List Val) (xs : List V) (ds : List PyData), Reps K ι G.length H l xs → optAll (toD G k) l = some ds → DpAll K H xs ds
  | [], xs, ds, r, e => by
    rw [show xs = [] from r]
    cases e
    exact .nil
  | v :: l, xs, ds, ⟨y, ys, h1, h2, h3⟩, e => by
    obtain ⟨b, s, e1, e2, rfl⟩ := optAll_cons e
    rw [h1]
    exact .cons (ih v y b h2 e1) (dp_all k ih l ys s h3 e2)
theorem dp_of (S : Sim K ι G H) : ∀ (k : Nat) (v : Val) (x : V) (d : PyData), Rep K ι G.length H v x → toD G k v = some d → Dp K H x d
  | k, .non, x, d, r, h => by rw [show x = .non from r]; cases k <;> (cases h; exact .non)
  | k, .bl b, x, d, r, h => by rw [show x = .bl b from r]; cases k <;> (cases h; exact .bl b)
  | k, .int i, x, d, r, h => by rw [show x = .int i from r]; cases k <;> (cases h; exact .int i)
  | k, .str s, x, d, r, h => by rw [show x = .str (nm s) from r]; cases k <;> (cases h; exact .str (nm s))
  | 0, .tup _, x, d, r, h => by cases h
  | 0, .fro _, x, d, r, h => by cases h
  | k, .frd _, x, d, r, h => by cases k <;> cases h
  | k, .scr _, x, d, r, h => by cases k <;> cases h
  | 0, .obj _, x, d, r, h => by cases h
  | k + 1, .tup l, x, d, ⟨a, xs, e1, h1, r⟩, h => by
    have h2 : (optAll (toD G k) l).map PyData.tuple = some d := h
    cases e : optAll (toD G k) l with
    | none => rw [e] at h2; cases h2
    | some ds =>
      rw [e] at h2
      cases h2
      rw [e1]
      exact .tup h1 (dp_all k (fun v x d r q => dp_of S k v x d r q) l xs ds r e)
  | k + 1, .fro l, x, d, ⟨a, xs, e1, h1, r⟩, h => by
    have h2 : (optAll (toD G k) l).map PyData.list = some d := h
    cases e : optAll (toD G k) l with
    | none => rw [e] at h2; cases h2
    | some ds =>
      rw [e] at h2
      cases h2
      rw [e1]
      exact .lst h1.l (dp_all k (fun v x d r q => dp_of S k v x d r q) l xs ds r e)
  | k + 1, .obj i, x, d, r, h => by
    have h0 : (match G[i]? with | some (.lst l) => (optAll (toD G k) l).map PyData.list | _ => none) = some d := h
    cases e0 : G[i]? with
    | none => rw [e0] at h0; cases h0
    | some o =>
      rw [e0] at h0
      cases o with
      | lst l =>
        have h2 : (optAll (toD G k) l).map PyData.list = some d := h0
        cases e : optAll (toD G k) l with
        | none => rw [e] at h2; cases h2
        | some ds =>
          rw [e] at h2
          cases h2
          obtain ⟨xs, h1, rr⟩ := S.lst e0
          rw [r.2]
          exact .lst (.of h1) (dp_all k (fun v x d r q => dp_of S k v x d r q) l xs ds rr e)
      | _ => cases h0
end
def rEqP (K : PySem.W.Frag) : R2 := fun x y H Q => ∃ d e, Dp K H x d ∧ Dp K H y e ∧ d.plain = true ∧ e.plain = true ∧ d.depth ≤ dEq ∧ Q (.bl (PyData.eqv d e)) H
def rNeP (K : PySem.W.Frag) : R2 := fun x y H Q => ∃ d e, Dp K H x d ∧ Dp K H y e ∧ d.plain = true ∧ e.plain = true ∧ d.depth ≤ dEq ∧ Q (.bl (!PyData.eqv d e)) H
def rInP (K : PySem.W.Frag) (neg : Bool) : R2 := fun x y H Q => ∃ (d : PyData) (es : List PyData) (a : Addr) (ys : List V), Dp K H x d ∧ y = .ref a ∧ (SqL K H a ys ∨ SqT K H a ys) ∧ DpAll K H ys es ∧ d.plain = true ∧ PyData.plainAll es = true ∧ d.depth ≤ dEq ∧ Q (.bl (neg != es.any fun y => PyData.eqv y d)) H
section
variable {X : Cx} {E : XK} {a b : Expr} {ma mb : EM} {pos : Pos}
theorem op_eqP (hu : X.A.units + 64 < cLine) : OpR X (compareOp .Eq) (rEqP X.K) := by
  intro pins s σ H x y v u Q I rx ry h
  obtain ⟨d, e, hd, he, sd, se, hl, q⟩ := h
  obtain ⟨as, r1⟩ := Dp.reads I d x v hd rx
  obtain ⟨bs, r2⟩ := Dp.reads I e y u he ry
  have hl' : d.depth ≤ 40 := hl
  have hm : min d.depth e.depth ≤ d.depth := Nat.min_le_left _ _
  exact SeqAt.eq_plain r1 r2 sd se (by omega) ⟨.bl _, H, I, rfl, q⟩
theorem op_neP (hu : X.A.units + 64 < cLine) : OpR X (compareOp .NotEq) (rNeP X.K) := by
  intro pins s σ H x y v u Q I rx ry h
  obtain ⟨d, e, hd, he, sd, se, hl, q⟩ := h
  obtain ⟨as, r1⟩ := Dp.reads I d x v hd rx
  obtain ⟨bs, r2⟩ := Dp.reads I e y u he ry
  have hl' : d.depth ≤ 40 := hl
  have hm : min d.depth e.depth ≤ d.depth := Nat.min_le_left _ _
  exact SeqAt.ne_plain r1 r2 sd se (by omega) ⟨.bl _, H, I, rfl, q⟩
theorem op_inP (hu : X.A.units + 64 < cLine) : OpR X (compareOp .In) (rInP X.K false) := by
  intro pins s σ H x y v u Q I rx ry h
  obtain ⟨d, es, p, ys, hd, rfl, hs, he, sd, se, hl, q⟩ := h
  obtain ⟨as, r1⟩ := Dp.reads I d x v hd rx
  have hl' : d.depth ≤ 40 := hl
  have hm : min (PyData.depthAll es) d.depth ≤ d.depth := Nat.min_le_right _ _
  rw [Bool.false_bne] at q
  rcases hs with hs | hs
  · obtain ⟨bs, r2⟩ := Dp.reads I (.list es) (.ref p) u (.lst hs he) ry
    exact SeqAt.in_list_data r2 r1 se sd (by omega) ⟨.bl _, H, I, rfl, q⟩
  · obtain ⟨bs, r2⟩ := Dp.reads I (.tuple es) (.ref p) u (.tup hs he) ry
    exact SeqAt.in_tuple_data r2 r1 se sd (by omega) ⟨.bl _, H, I, rfl, q⟩
theorem op_notInP (hu : X.A.units + 64 < cLine) : OpR X (compareOp .NotIn) (rInP X.K true) := by
  intro pins s σ H x y v u Q I rx ry h
  obtain ⟨d, es, p, ys, hd, rfl, hs, he, sd, se, hl, q⟩ := h
  obtain ⟨as, r1⟩ := Dp.reads I d x v hd rx
  have hl' : d.depth ≤ 40 := hl
  have hm : min (PyData.depthAll es) d.depth ≤ d.depth := Nat.min_le_right _ _
  rw [Bool.true_bne] at q
  rcases hs with hs | hs
  · obtain ⟨bs, r2⟩ := Dp.reads I (.list es) (.ref p) u (.lst hs he) ry
    exact SeqAt.notIn_list_data r2 r1 se sd (by omega) ⟨.bl _, H, I, rfl, q⟩
  · obtain ⟨bs, r2⟩ := Dp.reads I (.tuple es) (.ref p) u (.tup hs he) ry
    exact SeqAt.notIn_tuple_data r2 r1 se sd (by omega) ⟨.bl _, H, I, rfl, q⟩
end
section
variable {K : PySem.W.Frag} {E : XK}
theorem s_eq : OpS K E (rEqP K) fEq := by
  intro ι G H v u x y Q S rx ry p
  unfold fEq at p
  cases e1 : toD G dEq v with
  | none => rw [e1] at p; exact p.elim
  | some d =>
    cases e2 : toD G dEq u with
    | none => rw [e1, e2] at p; exact p.elim
    | some e =>
      rw [e1, e2] at p
      exact ⟨d, e, dp_of S _ v x d rx e1, dp_of S _ u y e ry e2, (toD_ok _ v d e1).1, (toD_ok _ u e e2).1, (toD_ok _ v d e1).2, p.here S _ rfl⟩
theorem s_ne : OpS K E (rNeP K) fNe := by
  intro ι G H v u x y Q S rx ry p
  unfold fNe at p
  cases e1 : toD G dEq v with
  | none => rw [e1] at p; exact p.elim
  | some d =>
    cases e2 : toD G dEq u with
    | none => rw [e1, e2] at p; exact p.elim
    | some e =>
      rw [e1, e2] at p
      exact ⟨d, e, dp_of S _ v x d rx e1, dp_of S _ u y e ry e2, (toD_ok _ v d e1).1, (toD_ok _ u e e2).1, (toD_ok _ v d e1).2, p.here S _ rfl⟩
theorem items_at {ι : Vw} {G : Store} {H : Hp} {u : Val} {y : V} {l : List Val} (S : Sim K ι G H) (r : Rep K ι G.length H u y) (h : itemsOf G u = some l) : ∃ a ys, y = .ref a ∧ (SqL K H a ys ∨ SqT K H a ys) ∧ Reps K ι G.length H l ys := by
  cases u with
  | tup m =>
    cases h
    obtain ⟨a, xs, e, h1, h2⟩ := r
    exact ⟨a, xs, e, .inr h1, h2⟩
  | fro m =>
    cases h
    obtain ⟨a, xs, e, h1, h2⟩ := r
    exact ⟨a, xs, e, .inl h1.l, h2⟩
  | scr m =>
    cases h
    obtain ⟨a, xs, e, h1, h2⟩ := r
    exact ⟨a, xs, e, .inl h1.l, h2⟩
  | obj i =>
    have h0 : (match G[i]? with | some (.lst l) => some l | _ => none) = some l := h
    cases e0 : G[i]? with
    | none => rw [e0] at h0; cases h0
    | some o =>
      rw [e0] at h0
      cases o with
      | lst m =>
        cases h0
        obtain ⟨xs, h1, h2⟩ := S.lst e0
        exact ⟨ι i, xs, r.2, .inl (.of h1), h2⟩
      | _ => cases h0
  | _ => cases h
theorem s_in {neg : Bool} : OpS K E (rInP K neg) (fIn neg) := by
  intro ι G H v u x y Q S rx ry p
  unfold fIn at p
  cases e1 : toD G dEq v with
  | none => rw [e1] at p; exact p.elim
  | some d =>
    cases e2 : itemsOf G u with
    | none => rw [e1, e2] at p; exact p.elim
    | some l =>
      cases e3 : optAll (toD G dEq) l with
      | none =>
        rw [e1, e2] at p
        have p2 : Post K E ι G.length H (match some d, optAll (toD G dEq) l with | some d, some es => .ok (.bl (neg != (es.any fun y => PyData.eqv y d))) G | _, _ => .bad) (fun ι' G' H' w => ∀ z, Rep K ι' G'.length H' w z → Q z H') := p
        rw [e3] at p2
        exact p2.elim
      | some es =>
        rw [e1, e2] at p
        have p2 : Post K E ι G.length H (match some d, optAll (toD G dEq) l with | some d, some es => .ok (.bl (neg != (es.any fun y => PyData.eqv y d))) G | _, _ => .bad) (fun ι' G' H' w => ∀ z, Rep K ι' G'.length H' w z → Q z H') := p
        rw [e3] at p2
        obtain ⟨a, ys, ey, h1, h2⟩ := items_at S ry e2
        exact ⟨d, es, a, ys, dp_of S _ v x d rx e1, ey, h1, dp_all dEq (fun v x d r q => dp_of S dEq v x d r q) l ys es h2 e3, (toD_ok _ v d e1).1, plain_all es fun z hz => by
          obtain ⟨w, _, ew⟩ := optAll_mem e3 z hz
          exact (toD_ok _ w z ew).1, (toD_ok _ v d e1).2, p2.here S _ rfl⟩
end
end R1
/-! R1c: tests, truth, and, or, not; displays; places, slices, fields; calls of built-ins. -/
namespace R1
open PySem PySem.Spec PyProof.Rows L2
/-! ### tests -/
def Res.asB (r : Res Val) : Res Bool := r.bind fun v G => match v with
  | .bl b => .ok b G
  | _ => .bad
def eTest (m : EM) : TM := fun ρ G => (m ρ G).asB
def truth (G : Store) : Val → Option Bool
  | .non => some false
  | .bl b => some b
  | .int i => some (i != 0)
  | .str _ => none
  | .tup l => some (!l.isEmpty)
  | .fro l => some (!l.isEmpty)
  | .frd _ => none
  | .scr _ => none
  | .obj i => match G[i]? with
    | some (.lst l) => some (!l.isEmpty)
    | some (.dic l) => some (!l.isEmpty)
    | _ => none
def eTruth (m : EM) : TM := fun ρ G => (m ρ G).bind fun v G1 => match truth G1 v with
  | some b => .ok b G1
  | none => .bad
def tNot1 (m : TM) : TM := fun ρ G => (m ρ G).bind fun b G1 => .ok (!b) G1
def tAnd1 (m k : TM) : TM := fun ρ G => (m ρ G).bind fun b G1 => if b = true then k ρ G1 else .ok false G1
def tOr1 (m k : TM) : TM := fun ρ G => (m ρ G).bind fun b G1 => if b = true then .ok true G1 else k ρ G1
section
variable {X : Cx} {E : XK} {a b c : Expr} {ma mb mc : EM} {ta tb : TM} {pos : Pos} {rest : List Expr}
/-- an expression, then what its value is worth -/
theorem run1 {σ : L2.St} {H : Hp} {ι : Vw} {G : Store} {ρ : Env1} {R : V → Hp → Prop} (S : Sim X.K ι G H) (sl : Slots X.K ι G.length H ρ σ)
    (h : Post X.K E ι G.length H (ma ρ G) fun ι' G' H' v => ∀ x, Rep X.K ι' G'.length H' v x → R x H') : tE X.K E ma σ H R := ⟨ι, G, ρ, S, sl, h⟩
theorem rt_of {t : TE} (h : PT X a (tTest t)) (w : ∀ σ H Q, tE X.K E ma σ H Q → t σ H Q) : RT X E a (eTest ma) := by
  refine pt_weak h fun σ H Q ⟨ι, G, ρ, S, sl, p⟩ => w σ H _ (run1 S sl ((Post.bind p).mono fun ι1 G1 H1 v x1 S1 p1 x rx => ?_))
  cases v with
  | bl b => exact ⟨b, rx, p1.here S1⟩
  | _ => exact p1.elim
theorem rt_cmp {op : CmpOp} {r : R2} {f : F2} (ho : OpR X (compareOp op) r) (hs : OpS X.K E r f) (ha : RE X E a ma) (hb : RE X E b mb) (hm : behindInMarks op b = false) : RT X E (.Compare a [op] [b] pos) (eTest (eOp f ma mb)) :=
  rt_of (pt_cmpR ho ha hb hm) fun σ H Q h => two h fun ι G H' v u x y S rx ry p => hs ι G H' v u x y Q S rx ry p
theorem rt_lt (ha : RE X E a ma) (hb : RE X E b mb) : RT X E (.Compare a [.Lt] [b] pos) (eTest (eOp fLt ma mb)) := rt_cmp op_lt s_lt ha hb (nomark _)
theorem rt_le (ha : RE X E a ma) (hb : RE X E b mb) : RT X E (.Compare a [.LtE] [b] pos) (eTest (eOp fLe ma mb)) := rt_cmp op_le s_le ha hb (nomark _)
theorem rt_gt (ha : RE X E a ma) (hb : RE X E b mb) : RT X E (.Compare a [.Gt] [b] pos) (eTest (eOp fGt ma mb)) := rt_cmp op_gt s_gt ha hb (nomark _)
theorem rt_ge (ha : RE X E a ma) (hb : RE X E b mb) : RT X E (.Compare a [.GtE] [b] pos) (eTest (eOp fGe ma mb)) := rt_cmp op_ge s_ge ha hb (nomark _)
theorem rt_is (ha : RE X E a ma) (hb : RE X E b mb) : RT X E (.Compare a [.Is] [b] pos) (eTest (eOp fIs ma mb)) := rt_cmp (op_isN.or op_isBl) (s_isN.or s_isB) ha hb (nomark _)
theorem rt_isnot (ha : RE X E a ma) (hb : RE X E b mb) : RT X E (.Compare a [.IsNot] [b] pos) (eTest (eOp fIsNot ma mb)) := rt_cmp (op_notN.or op_notBl) (s_notN.or s_notB) ha hb (nomark _)
/-! two comparisons in a row -/
def eChain (f g : F2) (a b c : EM) : EM := fun ρ G => (a ρ G).bind fun v G1 => (b ρ G1).bind fun u G2 => (f v u G2).bind fun k G3 => match k with
  | .bl true => (c ρ G3).bind fun w G4 => g u w G4
  | .bl false => .ok (.bl false) G3
  | _ => .bad
theorem chain_w {f g : F2} {r r' : R2} (hf : OpS X.K E r f) (hg : OpS X.K E r' g) : ∀ σ H Q, tE X.K E (eChain f g ma mb mc) σ H Q → tChain r r' (tE X.K E ma) (tE X.K E mb) (tE X.K E mc) σ H Q := fun σ H Q ⟨ι, G, ρ, S, sl, p⟩ => by
  refine run1 S sl ((Post.bind p).mono fun ι1 G1 H1 v x1 S1 p1 x rx => run1 S1 (sl.ext x1) ((Post.bind p1).mono fun ι2 G2 H2 u x2 S2 p2 y ry => ?_))
  refine hf ι2 G2 H2 v u x y _ S2 (rx.ext x2) ry ((Post.bind p2).mono fun ι3 G3 H3 k x3 S3 p3 z rz => ?_)
  cases k with
  | bl k =>
    refine ⟨k, rz, ?_⟩
    cases k with
    | false =>
      rw [if_neg (by decide)]
      exact p3.here S3 _ rfl
    | true =>
      rw [if_pos rfl]
      exact run1 S3 (sl.ext ((x1.trans x2).trans x3)) ((Post.bind p3).mono fun ι4 G4 H4 w x4 S4 p4 z' rz' => hg ι4 G4 H4 u w y z' Q S4 (ry.ext (x3.trans x4)) rz' p4)
  | _ => exact p3.elim
theorem re_chain {op op' : CmpOp} {r r' : R2} {f g : F2} (ho : OpR X (compareOp op) r) (ho' : OpR X (compareOp op') r') (hf : OpS X.K E r f) (hg : OpS X.K E r' g) (ha : RE X E a ma) (hb : RE X E b mb) (hc : RE X E c mc)
    (hm : lastMarks [op, op'] [b, c] = false := by with_unfolding_all rfl) : RE X E (.Compare a [op, op'] [b, c] pos) (eChain f g ma mb mc) := pe_weak (pe_chain ho ho' ha hb hc hm) (chain_w hf hg)
/-! truth -/
theorem tru_at {K : PySem.W.Frag} {ι : Vw} {G : Store} {H : Hp} {v : Val} {x : V} {b : Bool} (S : Sim K ι G H) (r : Rep K ι G.length H v x) (h : truth G v = some b) : TruV K x H b := by
  cases v with
  | non => rw [show x = .non from r]; cases h; rfl
  | bl k => rw [show x = .bl k from r]; cases h; rfl
  | int i => rw [show x = .int i from r]; cases h; rfl
  | str s => cases h
  | tup l =>
    obtain ⟨a, xs, e, h1, h2⟩ := r
    cases h
    rw [e]
    refine .inr (.inl ⟨xs, h1, ?_⟩)
    have := h2.length
    cases l <;> cases xs <;> first | rfl | simp at this
  | fro l =>
    obtain ⟨a, xs, e, h1, h2⟩ := r
    cases h
    rw [e]
    refine .inl ⟨xs, h1.l, ?_⟩
    have := h2.length
    cases l <;> cases xs <;> first | rfl | simp at this
  | frd l => cases h
  | scr l => cases h
  | obj i =>
    have h0 : (match G[i]? with | some (.lst l) => some (!l.isEmpty) | some (.dic l) => some (!l.isEmpty) | _ => none) = some b := h
    rw [r.2]
    cases e0 : G[i]? with
    | none => rw [e0] at h0; cases h0
    | some o =>
      rw [e0] at h0
      cases o with
      | lst l =>
        cases h0
        obtain ⟨xs, h1, h2⟩ := S.lst e0
        refine .inl ⟨xs, .of h1, ?_⟩
        have := h2.length
        cases l <;> cases xs <;> first | rfl | simp at this
      | dic l =>
        cases h0
        obtain ⟨xs, h1, h2⟩ := S.dic e0
        refine .inr (.inr ⟨xs, h1, ?_⟩)
        have := h2.length
        cases l <;> cases xs <;> first | rfl | simp at this
      | _ => cases h0
theorem rt_truth (ha : RE X E a ma) (he : ∀ whole, isTrue a X.env whole = (do let v ← whole; standAt a.pos; holding [v] (truthy v)) := by intro _; rfl) : RT X E a (eTruth ma) := by
  refine pt_weak (pt_truth ha he) fun σ H Q ⟨ι, G, ρ, S, sl, p⟩ => run1 S sl ((Post.bind p).mono fun ι1 G1 H1 v x1 S1 p1 x rx => ?_)
  cases e : truth G1 v with
  | none => rw [e] at p1; exact p1.elim
  | some b =>
    rw [e] at p1
    exact ⟨b, tru_at S1 rx e, p1.here S1⟩
theorem rt_not (ha : RT X E a ta) : RT X E (.UnaryOp .Not a pos) (tNot1 ta) := by
  refine pt_weak (pt_not ha) fun σ H Q ⟨ι, G, ρ, S, sl, p⟩ => ⟨ι, G, ρ, S, sl, (Post.bind p).mono fun ι1 G1 H1 b x1 S1 p1 => p1.here S1⟩
theorem rw_and1 (ha : RT X E a ta) : RW X E (.BoolOp .And [a] pos) ta := pw_and1 ha
theorem rw_or1 (ha : RT X E a ta) : RW X E (.BoolOp .Or [a] pos) ta := pw_or1 ha
theorem rw_and (ha : RT X E a ta) (hb : RW X E (.BoolOp .And (b :: rest) pos) tb) : RW X E (.BoolOp .And (a :: b :: rest) pos) (tAnd1 ta tb) := by
  refine pw_weak (pw_and ha hb) fun σ H Q ⟨ι, G, ρ, S, sl, p⟩ => ⟨ι, G, ρ, S, sl, (Post.bind p).mono fun ι1 G1 H1 b x1 S1 p1 => ?_⟩
  cases b with
  | true => exact ⟨ι1, G1, ρ, S1, sl.ext x1, p1⟩
  | false => exact p1.here S1
theorem rw_or (ha : RT X E a ta) (hb : RW X E (.BoolOp .Or (b :: rest) pos) tb) : RW X E (.BoolOp .Or (a :: b :: rest) pos) (tOr1 ta tb) := by
  refine pw_weak (pw_or ha hb) fun σ H Q ⟨ι, G, ρ, S, sl, p⟩ => ⟨ι, G, ρ, S, sl, (Post.bind p).mono fun ι1 G1 H1 b x1 S1 p1 => ?_⟩
  cases b with
  | true => exact p1.here S1
  | false => exact ⟨ι1, G1, ρ, S1, sl.ext x1, p1⟩
theorem rt_bool (h : RW X E a ta) : RT X E a ta := h.pt
end
/-! ### and, or, not as values (of bools) -/
def eNot (m : EM) : EM := fun ρ G => (m ρ G).bind fun v G1 => match v with
  | .bl b => .ok (.bl (!b)) G1
  | _ => .bad
def eAnd (m k : EM) : EM := fun ρ G => (m ρ G).bind fun v G1 => match v with
  | .bl true => k ρ G1
  | .bl false => .ok (.bl false) G1
  | _ => .bad
def eOr (m k : EM) : EM := fun ρ G => (m ρ G).bind fun v G1 => match v with
  | .bl true => .ok (.bl true) G1
  | .bl false => k ρ G1
  | _ => .bad
def eIf (t : TM) (a b : EM) : EM := fun ρ G => (t ρ G).bind fun k G1 => if k = true then a ρ G1 else b ρ G1
section
variable {X : Cx} {E : XK} {a b c : Expr} {ma mb mc : EM} {ta tb : TM} {pos : Pos} {rest : List Expr}
theorem re_not (ha : RE X E a ma) : RE X E (.UnaryOp .Not a pos) (eNot ma) := by
  refine pe_weak (pe_not ha) fun σ H Q ⟨ι, G, ρ, S, sl, p⟩ => run1 S sl ((Post.bind p).mono fun ι1 G1 H1 v x1 S1 p1 x rx => ?_)
  cases v with
  | bl b => exact ⟨b, rx, p1.here S1 _ rfl⟩
  | _ => exact p1.elim
theorem re_one {op} (ha : RE X E a ma) : RE X E (.BoolOp op [a] pos) ma := pe_one ha
theorem re_and (ha : RE X E a ma) (hb : RE X E (.BoolOp .And (b :: rest) pos) mb) : RE X E (.BoolOp .And (a :: b :: rest) pos) (eAnd ma mb) := by
  refine pe_weak (pe_and ha hb) fun σ H Q ⟨ι, G, ρ, S, sl, p⟩ => run1 S sl ((Post.bind p).mono fun ι1 G1 H1 v x1 S1 p1 x rx => ?_)
  cases v with
  | bl k =>
    refine ⟨k, rx, ?_⟩
    cases k with
    | true => exact run1 S1 (sl.ext x1) p1
    | false => exact p1.here S1 _ rfl
  | _ => exact p1.elim
end
/-! ### arguments, displays -/
def aNil : AM := fun _ G => .ok [] G
def aCons (m : EM) (k : AM) : AM := fun ρ G => (m ρ G).bind fun v G1 => (k ρ G1).bind fun vs G2 => .ok (v :: vs) G2
def eTup (k : AM) : EM := fun ρ G => (k ρ G).bind fun vs G1 => if vs.length ≤ sizeLine then .ok (.tup vs) G1 else .bad
def eLst (z : Bool) (k : AM) : EM := fun ρ G => (k ρ G).bind fun vs G1 => if vs.length ≤ sizeLine then mkL z vs G1 else .bad
def eDic0 (z : Bool) : EM := fun _ G => mkD z [] G
section
variable {X : Cx} {E : XK} {e : Expr} {es : List Expr} {me : EM} {mes : AM} {pos : Pos}
theorem ra_nil : RA X E [] aNil := pa_weak pa_nil fun σ H Q ⟨ι, G, ρ, S, sl, p⟩ => p.here S [] rfl
theorem ra_cons (he : RE X E e me) (hr : RA X E es mes) (hs : starEach (e :: es) X.env = (false, eval e X.env) :: starEach es X.env := by rfl) : RA X E (e :: es) (aCons me mes) := by
  refine pa_weak (pa_cons he hr hs) fun σ H Q ⟨ι, G, ρ, S, sl, p⟩ => run1 S sl ((Post.bind p).mono fun ι1 G1 H1 v x1 S1 p1 x rx => ⟨ι1, G1, ρ, S1, sl.ext x1, (Post.bind p1).mono fun ι2 G2 H2 vs x2 S2 p2 xs rxs => p2.here S2 _ ⟨x, xs, rfl, rx.ext x2, rxs⟩⟩)
theorem re_tup {k} (h : RA X E es mes) : RE X E (.Tuple es k pos) (eTup mes) := by
  refine pe_weak (pe_tup h) fun σ H Q ⟨ι, G, ρ, S, sl, p⟩ => ⟨ι, G, ρ, S, sl, (Post.bind p).mono fun ι1 G1 H1 vs x1 S1 p1 xs rx => ?_⟩
  have p2 : Post X.K E ι1 G1.length H1 (if vs.length ≤ sizeLine then Res.ok (.tup vs) G1 else .bad) (fun ι' G' H' v => ∀ x, Rep X.K ι' G'.length H' v x → Q x H') := p1
  by_cases hl : vs.length ≤ sizeLine
  · rw [if_pos hl] at p2
    exact ⟨by rw [rx.length]; exact hl, post_tup S1 rx p2⟩
  · rw [if_neg hl] at p2
    exact p2.elim
theorem re_lst {z : Bool} (h : RA X E es mes) : RE X E (.List es pos) (eLst z mes) := by
  refine pe_weak (pe_lst h) fun σ H Q ⟨ι, G, ρ, S, sl, p⟩ => ⟨ι, G, ρ, S, sl, (Post.bind p).mono fun ι1 G1 H1 vs x1 S1 p1 xs rx => ?_⟩
  have p2 : Post X.K E ι1 G1.length H1 (if vs.length ≤ sizeLine then mkL z vs G1 else .bad) (fun ι' G' H' v => ∀ x, Rep X.K ι' G'.length H' v x → Q x H') := p1
  by_cases hl : vs.length ≤ sizeLine
  · rw [if_pos hl] at p2
    exact ⟨by rw [rx.length]; exact hl, post_mkL S1 rx p2⟩
  · rw [if_neg hl] at p2
    exact p2.elim
theorem post_obj {K : PySem.W.Frag} {ι : Vw} {G : Store} {H : Hp} {o : Ob} {u : HO} {Q : VK} (S : Sim K ι G H) (ho : ∀ ι' n' H' q, Ext K ι G.length H ι' n' H' → H' q = some u → ORep K ι' n' H' o q)
    (p : Post K E ι G.length H (alloc o G) (fun ι' G' H' w => ∀ z, Rep K ι' G'.length H' w z → Q z H')) : ∀ q, H q = none → Q (.ref q) (L2.upd H q u) := fun q hq => by
  have e1 : Ext K ι G.length H (into ι G.length q) (G.length + 1) (L2.upd H q u) := Ext.push hq
  have e : Ext K ι G.length H (into ι G.length q) (G ++ [o]).length (L2.upd H q u) := by
    rw [List.length_append, List.length_singleton]
    exact e1
  refine p (into ι G.length q) _ e (S.push hq (ho _ _ _ q e1 upd_same)) _ ⟨?_, ?_⟩
  · rw [List.length_append, List.length_singleton]
    exact Nat.lt_succ_self _
  · rw [into_eq]
theorem post_mkD {K : PySem.W.Frag} {ι : Vw} {G : Store} {H : Hp} {z : Bool} {l : List (Ky × Val)} {xs : List (Key × V)} {Q : VK} (S : Sim K ι G H) (r : KReps K ι G.length H l xs) (p : Post K E ι G.length H (mkD z l G) (fun ι' G' H' w => ∀ z, Rep K ι' G'.length H' w z → Q z H')) :
    ∀ q, H q = none → Q (.ref q) (L2.upd H q (.dK xs)) := by
  cases z with
  | true => exact post_frd S r p
  | false => exact post_obj (o := .dic l) (u := .dK xs) S (fun ι' n' H' q x h => ⟨xs, h, r.ext x⟩) p
theorem re_dic0 {z : Bool} : RE X E (.Dict [] [] pos) (eDic0 z) := pe_weak pe_dnewK fun σ H Q ⟨ι, G, ρ, S, sl, p⟩ => post_mkD (z := z) (l := []) S rfl p
end
/-! ### places -/
def atL (l : List Val) (i : Int) : Option Val := L2.atI l i
def keyOf : Val → Option Ky
  | .int i => some (.inl i)
  | .str k => some (.inr k)
  | _ => none
def lookK (kvs : List (Ky × Val)) (k : Ky) : Option Val := (kvs.find? fun kv => decide (kv.1 = k)).map (·.2)
def putKy (kvs : List (Ky × Val)) (k : Ky) (v : Val) : List (Ky × Val) :=
  if (kvs.any fun kv => decide (kv.1 = k)) = true then kvs.map (fun kv => if kv.1 = k then (kv.1, v) else kv) else kvs ++ [(k, v)]
def dropKy (kvs : List (Ky × Val)) (k : Ky) : List (Ky × Val) := kvs.filter fun kv => decide (kv.1 ≠ k)
/-- a list's, a tuple's item -/
def fIxS : F2 := fun v u G => match u, itemsOf G v with
  | .int i, some l => (match atL l i with
    | some w => .ok w G
    | none => .bad)
  | _, _ => .bad
/-- the pairs of a dict, walked or not -/
def dicOf (G : Store) (v : Val) : Option (List (Ky × Val)) := match v with
  | .obj i => (match G[i]? with
    | some (.dic l) => some l
    | some (.lok l) => some l
    | _ => none)
  | .frd l => some l
  | _ => none
theorem dicOf_at {K : PySem.W.Frag} {ι : Vw} {G : Store} {H : Hp} {v : Val} {x : V} {l : List (Ky × Val)} (S : Sim K ι G H) (r : Rep K ι G.length H v x) (h : dicOf G v = some l) : ∃ a xs, x = .ref a ∧ Rd H a (.dK xs) ∧ KReps K ι G.length H l xs := by
  unfold dicOf at h
  cases v with
  | obj i =>
    dsimp only at h
    cases e : G[i]? with
    | none => rw [e] at h; cases h
    | some o =>
      rw [e] at h
      cases o with
      | dic m =>
        cases h
        obtain ⟨xs, h1, h2⟩ := S.dic e
        exact ⟨ι i, xs, r.2, .inl h1, h2⟩
      | lok m =>
        cases h
        obtain ⟨o, xs, h1, h2⟩ := S.obj i _ e
        exact ⟨ι i, xs, r.2, .inr ⟨o, h1⟩, h2⟩
      | _ => cases h
  | frd m =>
    cases h
    obtain ⟨a, xs, e, h1, h2⟩ := r
    exact ⟨a, xs, e, h1.1, h2⟩
  | _ => cases h
/-- a dict's value -/
def fIxD : F2 := fun v u G => match dicOf G v, keyOf u with
  | some l, some k => (match lookK l k with
    | some w => .ok w G
    | none => .bad)
  | _, _ => .bad
def fIx : F2 := orF fIxS fIxD
section
variable {K : PySem.W.Frag} {E : XK} {ι : Vw} {n : Nat} {G : Store} {H : Hp}
theorem Reps.at {l : List Val} {xs : List V} {i : Int} {v : Val} (r : Reps K ι n H l xs) (h : atL l i = some v) : ∃ x, L2.atI xs i = some x ∧ Rep K ι n H v x := by
  unfold atL L2.atI at *
  rw [r.length]
  cases e : ixN l.length i with
  | none => rw [e] at h; cases h
  | some j =>
    rw [e] at h
    exact r.get h
theorem key_rep {v : Val} {x : V} {k : Ky} (r : Rep K ι n H v x) (h : keyOf v = some k) : x = kV (kyOf k) := by
  cases v with
  | int i => cases h; exact r
  | str s => cases h; exact r
  | _ => cases h
theorem kyOf_dec (a b : Ky) : decide (kyOf a = kyOf b) = decide (a = b) := by
  by_cases h : a = b
  · rw [h, decide_eq_true rfl, decide_eq_true rfl]
  · rw [decide_eq_false h, decide_eq_false fun q => h (kyOf_inj q)]
theorem KReps.val {k : Ky} : ∀ {l : List (Ky × Val)} {xs : List (Key × V)}, KReps K ι n H l xs → (∀ v, lookK l k = some v → ∃ x, valV xs (kyOf k) = some x ∧ Rep K ι n H v x) ∧ (lookK l k = none → valV xs (kyOf k) = none)
  | [], _, h => by
    rw [show _ = [] from h]
    exact ⟨fun v e => (by cases e), fun _ => rfl⟩
  | q :: l, _, ⟨y, ys, h1, h2, h3⟩ => by
    rw [h1]
    unfold lookK valV
    rw [List.find?_cons, List.find?_cons]
    show (∀ v, Option.map (·.2) (match decide (q.1 = k) with | true => some q | false => l.find? fun kv => decide (kv.1 = k)) = some v → _) ∧ _
    have ed : decide (((kyOf q.1, y) : Key × V).1 = kyOf k) = decide (q.1 = k) := kyOf_dec q.1 k
    rw [ed]
    cases decide (q.1 = k) with
    | true => exact ⟨fun v e => ⟨y, rfl, (by cases e; exact h2)⟩, fun e => (by cases e)⟩
    | false => exact KReps.val h3
theorem s_ixS : OpS K E (fun x y H Q => rIxL K x y H Q ∨ rIxT K x y H Q) fIxS := by
  intro ι G H v u x y Q S rx ry p
  unfold fIxS at p
  cases u with
  | int i =>
    cases e1 : itemsOf G v with
    | none => rw [e1] at p; exact p.elim
    | some l =>
      rw [e1] at p
      have p2 : Post K E ι G.length H (match atL l i with | some w => .ok w G | none => .bad) (fun ι' G' H' w => ∀ z, Rep K ι' G'.length H' w z → Q z H') := p
      cases e2 : atL l i with
      | none => rw [e2] at p2; exact p2.elim
      | some w =>
        rw [e2] at p2
        obtain ⟨a, ys, ex, h1, h2⟩ := items_at S rx e1
        obtain ⟨z, ez, rz⟩ := h2.at e2
        rcases h1 with h1 | h1
        · exact .inl ⟨a, ys, i, z, ex, ry, h1, ez, p2.here S _ rz⟩
        · exact .inr ⟨a, ys, i, z, ex, ry, h1, ez, p2.here S _ rz⟩
  | _ => exact p.elim
end
section
variable {X : Cx} {E : XK} {a b : Expr} {ma mb : EM} {pos : Pos}
theorem pe_orE {e : Expr} {t t' : TE} (h : PE X e t) (h' : PE X e t') : PE X e (fun σ H Q => t σ H Q ∨ t' σ H Q) := ⟨fun pins s σ H Q I q => q.elim (h.run pins s σ H Q I) (h'.run pins s σ H Q I)⟩
/-- a list's or tuple's item -/
theorem re_ix (ha : RE X E a ma) (hb : RE X E b mb) (hs : PlainIx b := by intro _ _; rfl) : RE X E (.Subscript a b pos) (eOp fIxS ma mb) :=
  pe_weak (pe_ix (ix_list.or ix_tup) ha hb hs) fun σ H Q h => two h fun ι G H' v u x y S rx ry p => s_ixS ι G H' v u x y Q S rx ry p
/-- a dict's value -/
theorem re_ixD (hu : X.A.units + 64 < cLine) (ha : RE X E a ma) (hb : RE X E b mb) (hs : NoSl b := by intro _ _; rfl) : RE X E (.Subscript a b pos) (eOp fIxD ma mb) := by
  refine pe_weak (pe_dget (by omega) ha hb hs) fun σ H Q h => two h fun ι G H' v u x y S rx ry p => ?_
  unfold fIxD at p
  cases e1 : dicOf G v with
  | none => rw [e1] at p; exact p.elim
  | some l =>
    cases e2 : keyOf u with
    | none => rw [e1, e2] at p; exact p.elim
    | some k =>
      rw [e1, e2] at p
      dsimp only at p
      cases e3 : lookK l k with
      | none => rw [e3] at p; exact p.elim
      | some w =>
        rw [e3] at p
        obtain ⟨a, xs, ex, h1, h2⟩ := dicOf_at S rx e1
        obtain ⟨z, ez, rz⟩ := h2.val.1 w e3
        exact ⟨a, z, ex, .inl ⟨xs, kyOf k, h1, key_rep ry e2, ez.symm⟩, p.here S _ rz⟩
end
/-! ### slices -/
def cutL (l : List Val) (lo hi : Option Int) : List Val := (l.drop (HT.sIx l.length 0 lo)).take (HT.sIx l.length l.length hi - HT.sIx l.length 0 lo)
abbrev OM := Env1 → Store → Res (Option Int)
def oNone : OM := fun _ G => .ok none G
def oSome (m : EM) : OM := fun ρ G => (m ρ G).bind fun v G1 => match v with
  | .int i => .ok (some i) G1
  | _ => .bad
def fSl (z : Bool) : Val → Option Int → Option Int → Store → Res Val := fun v lo hi G => match v with
  | .tup l => .ok (.tup (cutL l lo hi)) G
  | _ => (match lstOf G v with
    | some l => mkL z (cutL l lo hi) G
    | none => .bad)
def eSl (z : Bool) (m : EM) (lo hi : OM) : EM := fun ρ G => (m ρ G).bind fun v G1 => (lo ρ G1).bind fun l G2 => (hi ρ G2).bind fun u G3 => fSl z v l u G3
section
variable {K : PySem.W.Frag} {E : XK} {ι : Vw} {n : Nat} {G : Store} {H : Hp}
theorem Reps.cut {l : List Val} {xs : List V} (r : Reps K ι n H l xs) (lo hi : Option Int) : Reps K ι n H (cutL l lo hi) (cutV xs lo hi) := by
  unfold cutL cutV
  rw [r.length]
  exact (r.drop _).take _
end
section
variable {X : Cx} {E : XK} {e : Expr} {me : EM} {lo hi : Option Expr} {ml mh : OM} {p2 pos : Pos}
abbrev tO (K : PySem.W.Frag) (E : XK) (m : OM) : TO := fun σ H Q => ∃ ι G ρ, Sim K ι G H ∧ Slots K ι G.length H ρ σ ∧ Post K E ι G.length H (m ρ G) fun ι' G' H' o => Q o H'
abbrev RO (X : Cx) (E : XK) (e : Option Expr) (m : OM) : Prop := PO X e (tO X.K E m)
theorem po_weak {e : Option Expr} {t t' : TO} (h : PO X e t) (w : ∀ σ H Q, t' σ H Q → t σ H Q) : PO X e t' := ⟨fun pins s σ H Q I q => h.run pins s σ H Q I (w σ H Q q)⟩
theorem ro_none : RO X E none oNone := po_weak po_none fun σ H Q ⟨ι, G, ρ, S, sl, p⟩ => p.here S
theorem ro_some (h : RE X E e me) : RO X E (some e) (oSome me) := by
  refine po_weak (po_some h) fun σ H Q ⟨ι, G, ρ, S, sl, p⟩ => run1 S sl ((Post.bind p).mono fun ι1 G1 H1 v x1 S1 p1 x rx => ?_)
  cases v with
  | int i => exact ⟨i, rx, p1.here S1⟩
  | _ => exact p1.elim
theorem re_sl {z : Bool} (he : RE X E e me) (hl : RO X E lo ml) (hh : RO X E hi mh) : RE X E (.Subscript e (.Slice lo hi none p2) pos) (eSl z me ml mh) := by
  refine pe_weak (pe_slice (sl_list.or sl_tupA) he hl hh) fun σ H Q ⟨ι, G, ρ, S, sl, p⟩ => run1 S sl ((Post.bind p).mono fun ι1 G1 H1 v x1 S1 q1 x rx => ⟨ι1, G1, ρ, S1, sl.ext x1, (Post.bind q1).mono fun ι2 G2 H2 l x2 S2 q2 => ⟨ι2, G2, ρ, S2, sl.ext (x1.trans x2), (Post.bind q2).mono fun ι3 G3 H3 u x3 S3 q3 => ?_⟩⟩)
  have r3 := rx.ext (x2.trans x3)
  unfold fSl at q3
  cases v with
  | tup m =>
    obtain ⟨a, xs, ex, h1, h2⟩ := r3
    refine .inr ⟨a, xs, ex, h1, fun hw => ?_, fun hw => post_tup S3 (h2.cut l u) q3⟩
    have e : cutL m l u = m := by
      unfold cutL
      rw [h2.length] at hw
      rw [hw.1, hw.2, List.drop_zero, Nat.sub_zero, List.take_length]
    have q4 : Post X.K E ι3 G3.length H3 (.ok (.tup (cutL m l u)) G3) (fun ι' G' H' v => ∀ x, Rep X.K ι' G'.length H' v x → Q x H') := q3
    rw [e] at q4
    exact q4.here S3 _ ⟨a, xs, rfl, h1, h2⟩
  | fro m =>
    obtain ⟨a, xs, ex, h1, h2⟩ := r3
    exact .inl ⟨a, xs, ex, h1.l, post_mkL (z := z) S3 (h2.cut l u) q3⟩
  | obj i =>
    cases e1 : lstOf G3 (.obj i) with
    | none => simp only [e1] at q3; exact q3.elim
    | some m =>
      simp only [e1] at q3
      obtain ⟨a, ys, ex, h1, h2⟩ := lstOf_at S3 r3 e1
      exact .inl ⟨a, ys, ex, .of h1, post_mkL S3 (h2.cut l u) q3⟩
  | _ => exact q3.elim
end
/-! ### fields -/
/-- the place of the field f in the class c -/
def eFld (m : EM) (places : List (Nat × Nat)) : EM := fun ρ G => (m ρ G).bind fun v G1 => match v with
  | .obj i => (match G1[i]? with
    | some (.ins c vs) => (match (places.lookup c).bind fun p => vs[p]? with
      | some w => .ok w G1
      | none => .bad)
    | _ => .bad)
  | _ => .bad
/-- the places say where f stands -/
def PlOk (f : Str) (places : List (Nat × Nat)) : Prop := ∀ q ∈ places, (cfields q.1)[q.2]? = some f
theorem lookup_mem {α β : Type} [BEq α] [LawfulBEq α] {k : α} {v : β} : ∀ {l : List (α × β)}, l.lookup k = some v → (k, v) ∈ l
  | [], h => by cases h
  | q :: l, h => by
    rw [List.lookup_cons] at h
    cases e : (k == q.1) with
    | true =>
      rw [e] at h
      cases h
      rw [eq_of_beq e]
      exact List.mem_cons_self ..
    | false =>
      rw [e] at h
      exact List.mem_cons_of_mem _ (lookup_mem h)
section
variable {X : Cx} {E : XK} {e : Expr} {me : EM} {f : Str} {pos : Pos} {pl : List (Nat × Nat)}
theorem re_fld (he : RE X E e me) (hp : PlOk f pl) (hb : attributeBase e f X.env (eval e X.env) = eval e X.env := by rfl) : RE X E (.Attribute e f pos) (eFld me pl) := by
  refine pe_weak (pe_fld he hb) fun σ H Q ⟨ι, G, ρ, S, sl, p⟩ => run1 S sl ((Post.bind p).mono fun ι1 G1 H1 v x1 S1 p1 x rx => ?_)
  cases v with
  | obj i =>
    cases e1 : G1[i]? with
    | none => simp only [e1] at p1; exact p1.elim
    | some o =>
      simp only [e1] at p1
      cases o with
      | ins c vs =>
        have p2 : Post X.K E ι1 G1.length H1 (match (pl.lookup c).bind fun p => vs[p]? with | some w => .ok w G1 | none => .bad) (fun ι' G' H' w => ∀ z, Rep X.K ι' G'.length H' w z → Q z H') := p1
        cases e2 : pl.lookup c with
        | none => rw [e2] at p2; exact p2.elim
        | some k =>
          rw [e2] at p2
          cases e3 : vs[k]? with
          | none =>
            have p3 : Post X.K E ι1 G1.length H1 (match vs[k]? with | some w => .ok w G1 | none => .bad) (fun ι' G' H' w => ∀ z, Rep X.K ι' G'.length H' w z → Q z H') := p2
            rw [e3] at p3
            exact p3.elim
          | some w =>
            have p3 : Post X.K E ι1 G1.length H1 (match vs[k]? with | some w => .ok w G1 | none => .bad) (fun ι' G' H' w => ∀ z, Rep X.K ι' G'.length H' w z → Q z H') := p2
            rw [e3] at p3
            have hf : (cfields c)[k]? = some f := hp (c, k) (lookup_mem e2)
            obtain ⟨ck, dx, gs, h1, h2⟩ := S1.ins e1
            obtain ⟨y, ey, ry⟩ := h2.look (fields_ok c).1 hf e3
            exact ⟨ι1 i, _, dx, gs, y, rx.2, h1, ck.cls, ck.fld f (List.mem_of_getElem? hf), ey, p3.here S1 _ ry⟩
      | _ => exact p1.elim
  | _ => exact p1.elim
end
/-! ### built-in functions -/
abbrev F1 := List Val → Store → Res Val
def CallS (K : PySem.W.Frag) (E : XK) (r : List V → Hp → VK → Prop) (f : F1) : Prop := ∀ (ι : Vw) (G : Store) (H : Hp) (vs : List Val) (xs : List V) (Q : VK), Sim K ι G H → Reps K ι G.length H vs xs →
  Post K E ι G.length H (f vs G) (fun ι' G' H' w => ∀ z, Rep K ι' G'.length H' w z → Q z H') → r xs H Q
def eCall (f : F1) (k : AM) : EM := fun ρ G => (k ρ G).bind fun vs G1 => f vs G1
def orF1 (f g : F1) : F1 := fun vs G => match f vs G with
  | .bad => g vs G
  | r => r
theorem CallR.or1 {X : Cx} {f : Value} {r r' : List V → Hp → VK → Prop} (h : CallR X f r) (h' : CallR X f r') : CallR X f (fun xs H Q => r xs H Q ∨ r' xs H Q) := fun pins s σ H xs us Q I rx q => q.elim (h pins s σ H xs us Q I rx) (h' pins s σ H xs us Q I rx)
theorem CallS.or {K : PySem.W.Frag} {E : XK} {r r' : List V → Hp → VK → Prop} {f g : F1} (h : CallS K E r f) (h' : CallS K E r' g) : CallS K E (fun xs H Q => r xs H Q ∨ r' xs H Q) (orF1 f g) := by
  intro ι G H vs xs Q S r p
  unfold orF1 at p
  cases e : f vs G with
  | bad =>
    rw [e] at p
    exact .inr (h' ι G H vs xs Q S r p)
  | ok w G' =>
    rw [e] at p
    exact .inl (h ι G H vs xs Q S r (by rw [e]; exact p))
  | exc c G' =>
    rw [e] at p
    exact .inl (h ι G H vs xs Q S r (by rw [e]; exact p))
section
variable {X : Cx} {E : XK} {e : Expr} {es : List Expr} {mes : AM} {x : Str} {p pos : Pos}
theorem re_callB {id : String} {r : List V → Hp → VK → Prop} {f : F1} (hc : CallR X (.builtin id) r) (hf : CallS X.K E r f) (hg : Gl X x) (hm : X.mg x = none) (hv : bootBuiltins x = some (.builtin id)) (ha : RA X E (e :: es) mes) (hn : x ≠ "__name__" := by decide) (hdb : (x == ("__debug__" : Str)) = false := by decide)
    (he : starEach (e :: es) X.env = (false, eval e X.env) :: starEach es X.env := by rfl) (hpl : (backTo pos (starEach es X.env)).any (·.1) = false := by rfl) : RE X E (.Call (.Name x p) (e :: es) [] pos) (eCall f mes) :=
  pe_weak (pe_callB hc hg hm hv ha hn hdb he hpl) fun σ H Q ⟨ι, G, ρ, S, sl, q⟩ => ⟨ι, G, ρ, S, sl, (Post.bind q).mono fun ι1 G1 H1 vs x1 S1 p1 xs rx => hf ι1 G1 H1 vs xs Q S1 rx p1⟩
theorem re_callTy {T : String} {r : List V → Hp → VK → Prop} {f : F1} (hc : CallR X (.type T) r) (hf : CallS X.K E r f) (hg : Gl X x) (hm : X.mg x = none) (hv : bootBuiltins x = some (.type T)) (ha : RA X E (e :: es) mes) (hn : x ≠ "__name__" := by decide) (hdb : (x == ("__debug__" : Str)) = false := by decide)
    (he : starEach (e :: es) X.env = (false, eval e X.env) :: starEach es X.env := by rfl) (hpl : (backTo pos (starEach es X.env)).any (·.1) = false := by rfl) : RE X E (.Call (.Name x p) (e :: es) [] pos) (eCall f mes) :=
  pe_weak (pe_callTy hc hg hm hv ha hn hdb he hpl) fun σ H Q ⟨ι, G, ρ, S, sl, q⟩ => ⟨ι, G, ρ, S, sl, (Post.bind q).mono fun ι1 G1 H1 vs x1 S1 p1 xs rx => hf ι1 G1 H1 vs xs Q S1 rx p1⟩
end
def bLen : F1 := fun vs G => match vs with
  | [v] => (match itemsOf G v with
    | some l => .ok (.int l.length) G
    | none => .bad)
  | _ => .bad
def bInt : F1 := fun vs G => match vs with
  | [.int i] => .ok (.int i) G
  | [.bl b] => .ok (.int (if b then 1 else 0)) G
  | _ => .bad
def bAbs : F1 := fun vs G => match vs with
  | [.int i] => .ok (.int (if i < 0 then -i else i)) G
  | _ => .bad
def bMax : F1 := fun vs G => match vs with
  | [.int i, .int j] => .ok (.int (if j > i then j else i)) G
  | _ => .bad
def bMin : F1 := fun vs G => match vs with
  | [.int i, .int j] => .ok (.int (if j < i then j else i)) G
  | _ => .bad
def bList (z : Bool) : F1 := fun vs G => match vs with
  | [v] => (match itemsOf G v with
    | some l => mkL z l G
    | none => .bad)
  | _ => .bad
def bTuple : F1 := fun vs G => match vs with
  | [v] => (match itemsOf G v with
    | some l => .ok (.tup l) G
    | none => .bad)
  | _ => .bad
def asInts : List Val → Option (List Int)
  | [] => some []
  | .int i :: l => (asInts l).map (i :: ·)
  | _ :: _ => none
def sortI (l : List Int) : List Int := l.mergeSort fun a b => decide (a ≤ b)
section
variable {K : PySem.W.Frag} {E : XK} {ι : Vw} {n : Nat} {G : Store} {H : Hp}
theorem reps1 {v : Val} {xs : List V} (r : Reps K ι n H [v] xs) : ∃ x, xs = [x] ∧ Rep K ι n H v x := by
  obtain ⟨y, ys, h1, h2, h3⟩ := r
  rw [show ys = [] from h3] at h1
  exact ⟨y, h1, h2⟩
theorem reps2 {v w : Val} {xs : List V} (r : Reps K ι n H [v, w] xs) : ∃ x y, xs = [x, y] ∧ Rep K ι n H v x ∧ Rep K ι n H w y := by
  obtain ⟨y, ys, h1, h2, z, zs, h3, h4, h5⟩ := r
  rw [show zs = [] from h5] at h3
  rw [h3] at h1
  exact ⟨y, z, h1, h2, h4⟩
theorem reps_ints : ∀ {l : List Val} {ns : List Int} {xs : List V}, asInts l = some ns → Reps K ι n H l xs → xs = ns.map V.int
  | [], ns, xs, h, r => by
    cases h
    exact r
  | v :: l, ns, xs, h, ⟨y, ys, h1, h2, h3⟩ => by
    cases v with
    | int i =>
      have h0 : (asInts l).map (i :: ·) = some ns := h
      cases e : asInts l with
      | none => rw [e] at h0; cases h0
      | some ms =>
        rw [e] at h0
        cases h0
        rw [h1, show y = V.int i from h2, reps_ints e h3]
        rfl
    | _ => cases h
theorem ints_reps : ∀ ns : List Int, Reps K ι n H (ns.map Val.int) (ns.map V.int)
  | [] => rfl
  | i :: ns => ⟨.int i, ns.map V.int, rfl, rfl, ints_reps ns⟩
theorem sortI_uniq {l m : List Int} (hp : m.Perm l) (hs : m.Pairwise (· ≤ ·)) : m = sortI l := by
  have h1 : (sortI l).Pairwise (· ≤ ·) := by
    have h := List.pairwise_mergeSort (le := fun a b : Int => decide (a ≤ b)) (fun a b c h1 h2 => by simp at *; omega) (fun a b => by simp; omega) l
    exact h.imp fun h => of_decide_eq_true h
  have h2 : (sortI l).Perm l := List.mergeSort_perm l _
  exact (hp.trans h2.symm).eq_of_pairwise (fun a b _ _ h1 h2 => Int.le_antisymm h1 h2) hs h1
theorem bs_len {r : List V → Hp → VK → Prop} (h : ∀ x n H Q, LenV K x H n → Q (.int n) H → r [x] H Q) : CallS K E r bLen := by
  intro ι G H vs xs Q S rs p
  unfold bLen at p
  cases vs with
  | nil => exact p.elim
  | cons v l =>
    cases l with
    | cons _ _ => exact p.elim
    | nil =>
      cases e : itemsOf G v with
      | none => simp only [e] at p; exact p.elim
      | some l =>
        simp only [e] at p
        obtain ⟨x, rfl, rx⟩ := reps1 rs
        obtain ⟨a, ys, ex, h1, h2⟩ := items_at S rx e
        refine h x l.length H Q ?_ (p.here S _ rfl)
        rw [ex, ← h2.length]
        rcases h1 with h1 | h1
        · exact .inl ⟨ys, h1, rfl⟩
        · exact .inr ⟨ys, h1, rfl⟩
theorem s_len {X : Cx} : CallS X.K E (fun xs H Q => ∃ x n, xs = [x] ∧ LenV X.K x H n ∧ Q (.int n) H) bLen := bs_len fun x n H Q h q => ⟨x, n, rfl, h, q⟩
theorem s_int : CallS K E (fun xs H Q => (∃ i, xs = [.int i] ∧ Q (.int i) H) ∨ ∃ k, xs = [.bl k] ∧ Q (.int (if k then 1 else 0)) H) bInt := by
  intro ι G H vs xs Q S rs p
  unfold bInt at p
  cases vs with
  | nil => exact p.elim
  | cons v l =>
    cases l with
    | cons _ _ => cases v <;> exact p.elim
    | nil =>
      obtain ⟨x, rfl, rx⟩ := reps1 rs
      cases v with
      | int i => exact .inl ⟨i, by rw [show x = V.int i from rx], p.here S _ rfl⟩
      | bl b => exact .inr ⟨b, by rw [show x = V.bl b from rx], p.here S _ rfl⟩
      | _ => exact p.elim
theorem s_abs : CallS K E (fun xs H Q => ∃ i, xs = [.int i] ∧ Q (.int (if i < 0 then -i else i)) H) bAbs := by
  intro ι G H vs xs Q S rs p
  unfold bAbs at p
  cases vs with
  | nil => exact p.elim
  | cons v l =>
    cases l with
    | cons _ _ => cases v <;> exact p.elim
    | nil =>
      obtain ⟨x, rfl, rx⟩ := reps1 rs
      cases v with
      | int i => exact ⟨i, by rw [show x = V.int i from rx], p.here S _ rfl⟩
      | _ => exact p.elim
theorem two_ints {vs : List Val} {xs : List V} {g : Int → Int → Int} {f : F1} {Q : VK} (hf : ∀ vs G, f vs G = match vs with | [.int i, .int j] => .ok (.int (g i j)) G | _ => .bad) (S : Sim K ι G H) (rs : Reps K ι G.length H vs xs)
    (p : Post K E ι G.length H (f vs G) (fun ι' G' H' w => ∀ z, Rep K ι' G'.length H' w z → Q z H')) : ∃ i j, xs = [.int i, .int j] ∧ Q (.int (g i j)) H := by
  rw [hf] at p
  cases vs with
  | nil => exact p.elim
  | cons v l =>
    cases l with
    | nil => cases v <;> exact p.elim
    | cons w m =>
      cases m with
      | cons _ _ => cases v <;> (try exact p.elim) <;> (cases w <;> exact p.elim)
      | nil =>
        obtain ⟨x, y, rfl, rx, ry⟩ := reps2 rs
        cases v with
        | int i =>
          cases w with
          | int j => exact ⟨i, j, by rw [show x = V.int i from rx, show y = V.int j from ry], p.here S _ rfl⟩
          | _ => exact p.elim
        | _ => exact p.elim
theorem s_max : CallS K E (fun xs H Q => ∃ i j, xs = [.int i, .int j] ∧ Q (.int (if j > i then j else i)) H) bMax := fun ι G H vs xs Q S rs p => two_ints (g := fun i j => if j > i then j else i) (fun vs G => rfl) S rs p
theorem s_min : CallS K E (fun xs H Q => ∃ i j, xs = [.int i, .int j] ∧ Q (.int (if j < i then j else i)) H) bMin := fun ι G H vs xs Q S rs p => two_ints (g := fun i j => if j < i then j else i) (fun vs G => rfl) S rs p
/-- one argument that is a list or a tuple -/
theorem one_seq {vs : List Val} {xs : List V} {β : Type} {g : List Val → Option β} {k : β → Store → Res Val} {f : F1} {Q : VK} (hf : ∀ vs G, f vs G = match vs with | [v] => (match (itemsOf G v).bind g with | some l => k l G | none => .bad) | _ => .bad) (S : Sim K ι G H) (rs : Reps K ι G.length H vs xs)
    (p : Post K E ι G.length H (f vs G) (fun ι' G' H' w => ∀ z, Rep K ι' G'.length H' w z → Q z H')) : ∃ a ys l b, xs = [.ref a] ∧ (SqL K H a ys ∨ SqT K H a ys) ∧ Reps K ι G.length H l ys ∧ g l = some b ∧ Post K E ι G.length H (k b G) (fun ι' G' H' w => ∀ z, Rep K ι' G'.length H' w z → Q z H') := by
  rw [hf] at p
  cases vs with
  | nil => exact p.elim
  | cons v l =>
    cases l with
    | cons _ _ => exact p.elim
    | nil =>
      have p2 : Post K E ι G.length H (match (itemsOf G v).bind g with | some l => k l G | none => .bad) (fun ι' G' H' w => ∀ z, Rep K ι' G'.length H' w z → Q z H') := p
      cases e : itemsOf G v with
      | none => rw [e] at p2; exact p2.elim
      | some l =>
        rw [e] at p2
        cases e2 : g l with
        | none =>
          have p3 : Post K E ι G.length H (match g l with | some l => k l G | none => .bad) (fun ι' G' H' w => ∀ z, Rep K ι' G'.length H' w z → Q z H') := p2
          rw [e2] at p3
          exact p3.elim
        | some b =>
          have p3 : Post K E ι G.length H (match g l with | some l => k l G | none => .bad) (fun ι' G' H' w => ∀ z, Rep K ι' G'.length H' w z → Q z H') := p2
          rw [e2] at p3
          obtain ⟨x, rfl, rx⟩ := reps1 rs
          obtain ⟨a, ys, ex, h1, h2⟩ := items_at S rx e
          exact ⟨a, ys, l, b, by rw [ex], h1, h2, e2, p3⟩
theorem bind_some {α : Type} (o : Option α) : o.bind some = o := by cases o <;> rfl
theorem s_list {z : Bool} : CallS K E (fun xs H Q => ∃ p ys, xs = [.ref p] ∧ (SqL K H p ys ∨ SqT K H p ys) ∧ ∀ l, H l = none → Q (.ref l) (L2.upd H l (.lst ys))) (bList z) := fun ι G H vs xs Q S rs p => by
  obtain ⟨a, ys, l, b, e, h1, h2, h3, p2⟩ := one_seq (g := some) (k := fun l G => mkL z l G) (f := bList z) (fun vs G => by unfold bList; cases vs with | nil => rfl | cons v l => cases l with | nil => (simp only [bind_some]; cases itemsOf G v <;> rfl) | cons _ _ => rfl) S rs p
  cases h3
  exact ⟨a, ys, e, h1, post_mkL S h2 p2⟩
end
end R1
/-! R1d: statements, targets, calls of defs, methods and classes. -/
namespace R1
open PySem PySem.Spec PyProof.Rows L2
inductive SR where
  | next (ρ : Env1) (G : Store) | ret (v : Val) (G : Store) | brk (ρ : Env1) (G : Store) | cont (ρ : Env1) (G : Store) | exc (c : Str) (G : Store) | bad
abbrev SM := Env1 → Store → SR
def SR.andThen (r : SR) (f : SM) : SR := match r with
  | .next ρ G => f ρ G
  | r => r
def Res.toS {α : Type} (r : Res α) (f : α → Store → SR) : SR := match r with
  | .ok a G => f a G
  | .exc c G => .exc c G
  | .bad => .bad
section
variable (K : PySem.W.Frag) (E : XK) (ι : Vw) (n : Nat) (H : Hp)
def SPost (r : SR) (D : Ends) : Prop := match r with
  | .next ρ' G' => ∀ ι' H' σ', Ext K ι n H ι' G'.length H' → Sim K ι' G' H' → Slots K ι' G'.length H' ρ' σ' → D.nx σ' H'
  | .ret v G' => ∀ ι' H' x, Ext K ι n H ι' G'.length H' → Sim K ι' G' H' → Rep K ι' G'.length H' v x → D.rt x H'
  | .brk ρ' G' => ∀ ι' H' σ', Ext K ι n H ι' G'.length H' → Sim K ι' G' H' → Slots K ι' G'.length H' ρ' σ' → D.bk σ' H'
  | .cont ρ' G' => ∀ ι' H' σ', Ext K ι n H ι' G'.length H' → Sim K ι' G' H' → Slots K ι' G'.length H' ρ' σ' → D.ct σ' H'
  | .exc c G' => ∀ ι' H', Ext K ι n H ι' G'.length H' → Sim K ι' G' H' → E (.ref (He.ga K c)) none H'
  | .bad => False
end
def tS (K : PySem.W.Frag) (E : XK) (m : SM) : TS := fun D σ H => ∃ ι G ρ, Sim K ι G H ∧ Slots K ι G.length H ρ σ ∧ SPost K E ι G.length H (m ρ G) D
abbrev RS (X : Cx) (E : XK) (st : Stmt) (m : SM) : Prop := PS X st (tS X.K E m)
abbrev RSs (X : Cx) (E : XK) (st : List Stmt) (m : SM) : Prop := PSs X st (tS X.K E m)
section
variable {K : PySem.W.Frag} {E : XK} {ι ι' : Vw} {n n' : Nat} {H H' : Hp}
theorem SPost.ext {r : SR} {D : Ends} (x : Ext K ι n H ι' n' H') (h : SPost K E ι n H r D) : SPost K E ι' n' H' r D := by
  cases r with
  | next ρ' G' => exact fun ι2 H2 σ2 e s l => h ι2 H2 σ2 (x.trans e) s l
  | ret v G' => exact fun ι2 H2 σ2 e s l => h ι2 H2 σ2 (x.trans e) s l
  | brk ρ' G' => exact fun ι2 H2 σ2 e s l => h ι2 H2 σ2 (x.trans e) s l
  | cont ρ' G' => exact fun ι2 H2 σ2 e s l => h ι2 H2 σ2 (x.trans e) s l
  | exc c G' => exact fun ι2 H2 e s => h ι2 H2 (x.trans e) s
  | bad => exact h
theorem SPost.seq {r : SR} {f : SM} {D : Ends} (h : SPost K E ι n H (r.andThen f) D) : SPost K E ι n H r { D with nx := tS K E f D } := by
  cases r with
  | next ρ' G' => exact fun ι2 H2 σ2 e s l => ⟨ι2, G', ρ', s, l, SPost.ext e h⟩
  | ret v G' => exact h
  | brk ρ' G' => exact h
  | cont ρ' G' => exact h
  | exc c G' => exact h
  | bad => exact h
theorem SPost.ofRes {α : Type} {r : Res α} {f : α → Store → SR} {D : Ends} (h : SPost K E ι n H (r.toS f) D) : Post K E ι n H r fun ι' G' H' v => SPost K E ι' G'.length H' (f v G') D := by
  cases r with
  | ok v G' => exact fun ι' H' e s => SPost.ext e h
  | exc c G' => exact h
  | bad => exact h
end
/-! ### small statements -/
def sPass : SM := fun ρ G => .next ρ G
def sSeq (a b : SM) : SM := fun ρ G => (a ρ G).andThen b
def sEx (m : EM) : SM := fun ρ G => (m ρ G).toS fun _ G1 => .next ρ G1
def sRet (m : EM) : SM := fun ρ G => (m ρ G).toS fun v G1 => .ret v G1
def sRetN : SM := fun _ G => .ret .non G
def sBrk : SM := fun ρ G => .brk ρ G
def sIf (t : TM) (a b : SM) : SM := fun ρ G => (t ρ G).toS fun k G1 => if k = true then a ρ G1 else b ρ G1
def sSet (i : Nat) (m : EM) : SM := fun ρ G => (m ρ G).toS fun v G1 => .next (ρ.set i (some v)) G1
section
variable {X : Cx} {E : XK} {st : Stmt} {rest : List Stmt} {m k : SM} {e c : Expr} {me : EM} {mt : TM} {pos : Pos}
theorem rs_nil : RSs X E [] sPass := pss_weak pss_nil fun D σ H ⟨ι, G, ρ, S, sl, p⟩ => p ι H σ .refl S sl
theorem rs_one (h : RS X E st m) : RSs X E [st] m := pss_one h
theorem rs_cons (h1 : RS X E st m) (h2 : RSs X E rest k) : RSs X E (st :: rest) (sSeq m k) := pss_weak (pss_cons h1 h2) fun D σ H ⟨ι, G, ρ, S, sl, p⟩ => ⟨ι, G, ρ, S, sl, p.seq⟩
theorem rs_break : RS X E (.Break pos) sBrk := ps_weak ps_break fun D σ H ⟨ι, G, ρ, S, sl, p⟩ => p ι H σ .refl S sl
theorem rs_ex (h : RE X E e me) (hs : swapsWith e none pos.line X.env = pure false := by rfl) : RS X E (.Expr e pos) (sEx me) :=
  ps_weak (ps_expr h hs) fun D σ H ⟨ι, G, ρ, S, sl, p⟩ => run1 S sl (p.ofRes.mono fun ι1 G1 H1 v x1 S1 p1 x rx => p1 ι1 H1 σ .refl S1 (sl.ext x1))
theorem rs_ret (h : RE X E e me) : RS X E (.Return (some e) pos) (sRet me) :=
  ps_weak (ps_ret h) fun D σ H ⟨ι, G, ρ, S, sl, p⟩ => run1 S sl (p.ofRes.mono fun ι1 G1 H1 v x1 S1 p1 x rx => p1 ι1 H1 x .refl S1 rx)
theorem rs_retN : RS X E (.Return none pos) sRetN := ps_weak ps_retN fun D σ H ⟨ι, G, ρ, S, sl, p⟩ => p ι H .non .refl S rfl
theorem rs_if {a b : List Stmt} (hc : RT X E c mt) (ha : RSs X E a m) (hb : RSs X E b k) : RS X E (.If c a b pos) (sIf mt m k) :=
  ps_weak (ps_if hc ha hb) fun D σ H ⟨ι, G, ρ, S, sl, p⟩ => ⟨ι, G, ρ, S, sl, p.ofRes.mono fun ι1 G1 H1 b x1 S1 p1 => by
    cases b with
    | true => exact ⟨ι1, G1, ρ, S1, sl.ext x1, p1⟩
    | false => exact ⟨ι1, G1, ρ, S1, sl.ext x1, p1⟩⟩
theorem rs_set {i : Nat} {x : Str} {pos' : Pos} (hN : X.N.Nodup) (hi : X.N[i]? = some x) (hx : Loc X.env.scope x) (he : RE X E e me) (hs : swapsWith e (some (.Name x pos')) pos.line X.env = pure false := by rfl) (hf : X.fn x = true ∨ X.env.scope.names.lookup x = some .local := by first | exact .inl rfl | exact .inr rfl | assumption) :
    RS X E (.Assign [.Name x pos'] e pos) (sSet i me) :=
  ps_weak (ps_set hN hi hx he hs hf) fun D σ H ⟨ι, G, ρ, S, sl, p⟩ => run1 S sl (p.ofRes.mono fun ι1 G1 H1 v x1 S1 p1 x rx => p1 ι1 H1 (σ.set i (some x)) .refl S1 ((sl.ext x1).set rx i))
/-- what is never reached -/
def sNever : SM := fun _ _ => .bad
theorem rs_never : RS X E st sNever := ps_weak ps_never fun D σ H ⟨ι, G, ρ, S, sl, p⟩ => p
end
/-! ### targets: a name, names -/
/-- a name's slot, or several -/
inductive Pt where
  | nm (i : Nat) | tup (l : List Nat)
def setAll : List Nat → List Val → Env1 → Option Env1
  | [], [], ρ => some ρ
  | i :: is, v :: vs, ρ => setAll is vs (ρ.set i (some v))
  | _, _, _ => none
def ptSet (G : Store) : Pt → Val → Env1 → Option Env1
  | .nm i, v, ρ => some (ρ.set i (some v))
  | .tup l, .tup vs, ρ => setAll l vs ρ
  | .tup _, _, _ => none
def Pt.slots : Pt → List Nat
  | .nm i => [i]
  | .tup l => l
def tG (K : PySem.W.Frag) (p : Pt) : TG := fun x σ H Q => ∃ ι G v ρ ρ', Sim K ι G H ∧ Rep K ι G.length H v x ∧ Slots K ι G.length H ρ σ ∧ ptSet G p v ρ = some ρ' ∧
  ∀ σ', Slots K ι G.length H ρ' σ' → σ'.length = σ.length → (∀ j, j ∉ p.slots → σ'[j]? = σ[j]?) → Q σ' H
abbrev RG (X : Cx) (e : Expr) (p : Pt) : Prop := PG X e (tG X.K p)
theorem pg_weak {X : Cx} {e : Expr} {t t' : TG} (h : PG X e t) (w : ∀ x σ H Q, t' x σ H Q → t x σ H Q) : PG X e t' := ⟨fun pins s σ H v u Q I r q => h.run pins s σ H v u Q I r (w _ _ _ _ q)⟩
/-- names, one behind another -/
def tGs (K : PySem.W.Frag) (l : List Nat) : TGs := fun xs σ H Q => ∃ ι G vs ρ ρ', Sim K ι G H ∧ Reps K ι G.length H vs xs ∧ Slots K ι G.length H ρ σ ∧ setAll l vs ρ = some ρ' ∧
  ∀ σ', Slots K ι G.length H ρ' σ' → σ'.length = σ.length → (∀ j, j ∉ l → σ'[j]? = σ[j]?) → Q σ' H
abbrev RGs (X : Cx) (es : List Expr) (l : List Nat) : Prop := PGs X es (tGs X.K l)
theorem pgs_weak {X : Cx} {es : List Expr} {t t' : TGs} (h : PGs X es t) (w : ∀ x σ H Q, t' x σ H Q → t x σ H Q) : PGs X es t' := ⟨fun pins s σ H v u Q I r q => h.run pins s σ H v u Q I r (w _ _ _ _ q)⟩
section
variable {X : Cx} {E : XK} {pos : Pos}
theorem rg_name {i : Nat} {x : Str} (hN : X.N.Nodup) (hi : X.N[i]? = some x) (hx : Loc X.env.scope x) (hf : X.fn x = true ∨ X.env.scope.names.lookup x = some .local := by first | exact .inl rfl | exact .inr rfl | assumption) : RG X (.Name x pos) (.nm i) :=
  pg_weak (pg_name hN hi hx hf) fun x σ H Q ⟨ι, G, v, ρ, ρ', S, r, sl, e, k⟩ => by
    cases e
    exact k (σ.set i (some x)) (sl.set r i) (List.length_set ..) fun j hj => List.getElem?_set_ne fun q => hj (by rw [← q]; exact List.mem_singleton_self _)
theorem rgs_nil : RGs X [] [] := pgs_weak pgs_nil fun xs σ H Q ⟨ι, G, vs, ρ, ρ', S, r, sl, e, k⟩ => by
  cases vs with
  | nil =>
    cases e
    exact ⟨r, k σ sl rfl fun _ _ => rfl⟩
  | cons _ _ => cases e
theorem rgs_cons {i : Nat} {l : List Nat} {x : Str} {es : List Expr} (hN : X.N.Nodup) (hi : X.N[i]? = some x) (hx : Loc X.env.scope x) (h2 : RGs X es l)
    (hf : X.fn x = true ∨ X.env.scope.names.lookup x = some .local := by first | exact .inl rfl | exact .inr rfl | assumption) (hs : assignEach (.Name x pos :: es) X.env = (false, assign (.Name x pos) X.env) :: assignEach es X.env := by rfl) : RGs X (.Name x pos :: es) (i :: l) :=
  pgs_weak (pgs_cons (pg_name hN hi hx hf) h2 (by first | exact hs | rfl)) fun xs σ H Q ⟨ι, G, vs, ρ, ρ', S, r, sl, e, k⟩ => by
    cases vs with
    | nil => cases e
    | cons v vs =>
      obtain ⟨y, ys, h1, h3, h4⟩ := r
      refine ⟨y, ys, h1, ι, G, vs, ρ.set i (some v), ρ', S, h4, sl.set h3 i, e, fun σ' a b c => k σ' a (b.trans (List.length_set ..)) fun j hj => ?_⟩
      have hj1 : j ∉ l := fun q => hj (List.mem_cons_of_mem _ q)
      have hj2 : i ≠ j := fun q => hj (by rw [q]; exact List.mem_cons_self ..)
      rw [c j hj1, List.getElem?_set_ne hj2]
theorem rg_tup {es : List Expr} {k : Nat} {l : List Nat} (hc : X.calm = true) (h : RGs X es l) (hn : (assignEach es X.env).length = l.length := by rfl) (hst : (assignEach es X.env).findIdx? (·.1) = none := by rfl) : RG X (.Tuple es k pos) (.tup l) :=
  pg_weak (pg_tup hc h hn hst) fun x σ H Q ⟨ι, G, v, ρ, ρ', S, r, sl, e, k⟩ => by
    cases v with
    | tup vs =>
      obtain ⟨a, xs, e1, h1, h2⟩ := r
      have len : ∀ {is : List Nat} {vs : List Val} {ρ ρ' : Env1}, setAll is vs ρ = some ρ' → vs.length = is.length := by
        intro is
        induction is with
        | nil => intro vs ρ ρ' h; cases vs with | nil => rfl | cons _ _ => cases h
        | cons i is ih => intro vs ρ ρ' h; cases vs with | nil => cases h | cons v vs => exact congrArg Nat.succ (ih h)
      refine ⟨a, xs, e1, h1, ?_, ι, G, vs, ρ, ρ', S, h2, sl, e, k⟩
      rw [h2.length]
      exact len e
    | _ => cases e
/-- a, b = e -/
def sUn (p : Pt) (m : EM) : SM := fun ρ G => (m ρ G).toS fun v G1 => match ptSet G1 p v ρ with
  | some ρ' => .next ρ' G1
  | none => .bad
/-- a, b = e1, e2 -/
def sPar (i j : Nat) (k : AM) : SM := fun ρ G => (k ρ G).toS fun vs G1 => match vs with
  | [v, w] => .next ((ρ.set i (some v)).set j (some w)) G1
  | _ => .bad
end
/-! ### fields, places are given values -/
/-- self.f = e, self an instance of the class c, f its field at the place p -/
def setFld (c p : Nat) (o v : Val) (G : Store) : Option Store := match o with
  | .obj i => (match G[i]? with
    | some (.ins c' vs) => if c' = c ∧ p ≤ vs.length then some (G.set i (.ins c (if p < vs.length then vs.set p v else vs ++ [v]))) else none
    | _ => none)
  | _ => none
def sFld1 (c p : Nat) (o m : EM) : SM := fun ρ G => (m ρ G).toS fun v G1 => (o ρ G1).toS fun w G2 => match setFld c p w v G2 with
  | some G3 => .next ρ G3
  | none => .bad
section
variable {X : Cx} {E : XK} {o e : Expr} {mo me : EM} {pos pos' : Pos}
theorem setFld_ok {K : PySem.W.Frag} {ι : Vw} {G G' : Store} {H : Hp} {c p : Nat} {f : Str} {w v : Val} {x y : V} (S : Sim K ι G H) (rw_ : Rep K ι G.length H w x) (rv : Rep K ι G.length H v y) (hf : (cfields c)[p]? = some f) (h : setFld c p w v G = some G') :
    ∃ a dx gs, x = .ref a ∧ H a = some (.ins (He.ga K (cname c)) dx gs) ∧ ClsOk K c ∧ gs.length < 1000 ∧ Sim K ι G' (L2.upd H a (.ins (He.ga K (cname c)) dx (putF f y gs))) ∧ Ext K ι G.length H ι G'.length (L2.upd H a (.ins (He.ga K (cname c)) dx (putF f y gs))) := by
  cases w with
  | obj i =>
    have h0 : (match G[i]? with | some (.ins c' vs) => (if c' = c ∧ p ≤ vs.length then some (G.set i (.ins c (if p < vs.length then vs.set p v else vs ++ [v]))) else none) | _ => none) = some G' := h
    cases e : G[i]? with
    | none => rw [e] at h0; cases h0
    | some ob =>
      rw [e] at h0
      cases ob with
      | ins c' vs =>
        have h1 : (if c' = c ∧ p ≤ vs.length then some (G.set i (.ins c (if p < vs.length then vs.set p v else vs ++ [v]))) else none) = some G' := h0
        by_cases hc : c' = c ∧ p ≤ vs.length
        · rw [if_pos hc] at h1
          cases h1
          obtain ⟨rfl, hp⟩ := hc
          obtain ⟨ck, dx, gs, g1, g2⟩ := S.ins e
          have hl := g2.length
          have hfo := fields_ok c'
          obtain ⟨s1, s2⟩ := S.set (u := .ins (He.ga K (cname c')) dx (putF f y gs)) (o := .ins c' (if p < vs.length then vs.set p v else vs ++ [v])) e rfl
            ⟨ck, dx, _, upd_same, (g2.put rv hfo.1 hf hp).ext (Ext.updE (S.fr e g1 trivial))⟩
          exact ⟨ι i, dx, gs, rw_.2, g1, ck, by omega, s1, s2⟩
        · rw [if_neg hc] at h1
          cases h1
      | _ => cases h0
  | _ => cases h
theorem rs_fld {c p : Nat} {f : Str} (hf : (cfields c)[p]? = some f) (ho : RE X E o mo) (he : RE X E e me) (hs : swapsWith e (some (.Attribute o f pos')) pos.line X.env = pure false := by rfl) : RS X E (.Assign [.Attribute o f pos'] e pos) (sFld1 c p mo me) :=
  ps_weak (ps_fld ho he hs) fun D σ H ⟨ι, G, ρ, S, sl, q⟩ => run1 S sl (q.ofRes.mono fun ι1 G1 H1 v x1 S1 p1 y ry => run1 S1 (sl.ext x1) (p1.ofRes.mono fun ι2 G2 H2 w x2 S2 p2 x rx => by
    cases e : setFld c p w v G2 with
    | none => rw [e] at p2; exact p2.elim
    | some G3 =>
      rw [e] at p2
      obtain ⟨a, dx, gs, e1, e2, ck, hl, s3, e3⟩ := setFld_ok S2 rx (ry.ext x2) hf e
      exact ⟨a, _, dx, gs, e1, e2, ck.cls, ck.fld f (List.mem_of_getElem? hf), hl, p2 ι2 _ σ e3 s3 (sl.ext ((x1.trans x2).trans e3))⟩))
end
/-! ### calls -/
/-- a def's promise: what m says -/
def spF (K : PySem.W.Frag) (np : Nat) (m : F1) : Sp := fun xs H Q E => ∃ ι G vs, Sim K ι G H ∧ Reps K ι G.length H vs xs ∧ vs.length = np ∧ Post K E ι G.length H (m vs G) fun ι' G' H' v => ∀ x, Rep K ι' G'.length H' v x → Q x H'
/-- plain values as they lie -/
def Dfl (dv : List Val) (ds : List Value) : Prop := dv.all plain1 = true ∧ Vals (dv.map pv1) ds
section
variable (P : Program) (w : World) (K : PySem.W.Frag) (mg : Str → Option Value) (base : Heap) (CX : CXT)
/-- the module's def x does what f says (dv: the defaults of the parameters that are left out) -/
structure GF (k : Nat) (x : Str) (np : Nat) (f : F1) (dv : List Val) : Prop where
  ex : ∃ (fa : Addr) (fd : FuncData) (ps : List Str) (ds : List Value), mg x = some (.ref fa) ∧ PySem.W.keepIn K (.ref fa) = true ∧ FnOk P w K mg base CX k fa fd ps (spF K np f) ∧ Binds K fd ps ds ∧ Dfl dv ds
/-- the method m of the class c -/
structure MF (k : Nat) (c : Nat) (m : Str) (np : Nat) (f : F1) (dv : List Val) : Prop where
  nf : m ∉ cfields c
  cls : Cls K (He.ga K (cname c))
  ex : ∃ (fa : Addr) (fd : FuncData) (ps : List Str) (ds : List Value), Meth K (He.ga K (cname c)) m fa ∧ FnOk P w K mg base CX k fa fd ps (spF K np f) ∧ Binds K fd ps ds ∧ Dfl dv ds
/-- the class c is made: f its __init__ -/
structure CF (k : Nat) (c : Nat) (np : Nat) (f : F1) (dv : List Val) : Prop where
  ok : ClsOk K c
  glo : mg (cname c) = some (.ref (He.ga K (cname c)))
  ex : ∃ (fa : Addr) (fd : FuncData) (ps : List Str) (ds : List Value), Mk K (He.ga K (cname c)) fa ∧ FnOk P w K mg base CX k fa fd ps (spF K np f) ∧ Binds K fd ps ds ∧ Dfl dv ds
end
theorem reps_dfl {K : PySem.W.Frag} {ι : Vw} {n : Nat} {H : Hp} : ∀ {dv : List Val}, dv.all plain1 = true → Reps K ι n H dv (dv.map pv1)
  | [], _ => rfl
  | v :: l, h => by
    obtain ⟨h1, h2⟩ := Bool.and_eq_true_iff.mp (show (plain1 v && l.all plain1) = true from h)
    exact ⟨pv1 v, l.map pv1, rfl, (rep_plain h1).mpr rfl, reps_dfl h2⟩
/-- a call of f with the defaults dv behind the values -/
def eCallF (f : F1) (dv : List Val) (k : AM) : EM := fun ρ G => (k ρ G).bind fun vs G1 => f (vs ++ dv) G1
/-- a method by the receiver's class -/
def eMeth (tb : List (Nat × F1)) (dv : List Val) (o : EM) (k : AM) : EM := fun ρ G => (o ρ G).bind fun w G1 => match w with
  | .obj i => (match G1[i]? with
    | some (.ins c _) => (match tb.lookup c with
      | some f => (k ρ G1).bind fun vs G2 => f (w :: (vs ++ dv)) G2
      | none => .bad)
    | _ => .bad)
  | _ => .bad
/-- a new instance -/
def eMake (c : Nat) (f : F1) (dv : List Val) (k : AM) : EM := fun ρ G => (k ρ G).bind fun vs G1 => (f (.obj G1.length :: (vs ++ dv)) (G1 ++ [.ins c []])).bind fun v G2 => match v with
  | .non => .ok (.obj G1.length) G2
  | _ => .bad
section
variable {X : Cx} {CX : CXT} {E : XK} {k np : Nat} {x m : Str} {f : F1} {dv : List Val} {e o : Expr} {es : List Expr} {mo : EM} {mes : AM} {p pos apos : Pos}
/-- f is asked with np values alone -/
def Arity (np : Nat) (f : F1) : Prop := ∀ vs G, vs.length ≠ np → f vs G = .bad
theorem re_call (F : GF X.prog X.w X.K X.mg X.base CX k x np f dv) (ar : Arity np f) (hr : Room k X.A) (hg : Gl X x) (hx : Passes CX X E) (ha : RA X E (e :: es) mes) (hdb : (x == ("__debug__" : Str)) = false := by decide)
    (he : starEach (e :: es) X.env = (false, eval e X.env) :: starEach es X.env := by rfl) (hpl : (backTo pos (starEach es X.env)).any (·.1) = false := by rfl) : RE X E (.Call (.Name x p) (e :: es) [] pos) (eCallF f dv mes) := by
  obtain ⟨fa, fd, ps, ds, hm, hk, F, hb, hpd, hd⟩ := F.ex
  refine pe_weak (pe_call F hr hg hm hk hb hd hx ha hdb he hpl) fun σ H Q ⟨ι, G, ρ, S, sl, q⟩ => ⟨ι, G, ρ, S, sl, (Post.bind q).mono fun ι1 G1 H1 vs x1 S1 p1 xs rx => ⟨ι1, G1, vs ++ dv, S1, rx.append (reps_dfl hpd), ?_, p1⟩⟩
  by_cases h : (vs ++ dv).length = np
  · exact h
  · rw [ar _ _ h] at p1
    exact p1.elim
theorem meth_w {c : Nat} {sp : Sp} (h : MF X.prog X.w X.K X.mg X.base CX k c m np f dv) (hsp : sp = spF X.K np f) (ar : Arity np f) (hp : dv.all plain1 = true) : ∀ σ H Q, tE X.K E (eMeth [(c, f)] dv mo mes) σ H Q → tMeth (He.ga X.K (cname c)) m sp (dv.map pv1) E (tE X.K E mo) (tA X.K E mes) σ H Q := fun σ H Q ⟨ι, G, ρ, S, sl, q⟩ => by
  subst hsp
  refine run1 S sl ((Post.bind q).mono fun ι1 G1 H1 w x1 S1 p1 x rx => ?_)
  cases w with
  | obj i =>
    cases e1 : G1[i]? with
    | none => simp only [e1] at p1; exact p1.elim
    | some ob =>
      simp only [e1] at p1
      cases ob with
      | ins c' vs =>
        by_cases hc : c' = c
        · subst hc
          have e2 : [(c', f)].lookup c' = some f := by rw [List.lookup_cons, beq_self_eq_true]
          dsimp only at p1
          rw [e2] at p1
          obtain ⟨ck, dx, gs, g1, g2⟩ := S1.ins e1
          refine ⟨ι1 i, dx, gs, rx.2, g1, g2.none h.nf, ι1, G1, ρ, S1, sl.ext x1, (Post.bind p1).mono fun ι2 G2 H2 ws x2 S2 p2 ys rys => ⟨ι2, G2, .obj i :: (ws ++ dv), S2, ⟨x, _, rfl, rx.ext x2, rys.append (reps_dfl hp)⟩, ?_, p2⟩⟩
          by_cases h : (Val.obj i :: (ws ++ dv)).length = np
          · exact h
          · rw [ar _ _ h] at p2
            exact p2.elim
        · have e2 : [(c, f)].lookup c' = none := by rw [List.lookup_cons, beq_false_of_ne hc]; rfl
          have p2 : Post X.K E ι1 G1.length H1 (match [(c, f)].lookup c' with | some f => (mes ρ G1).bind fun vs G2 => f (Val.obj i :: (vs ++ dv)) G2 | none => Res.bad) fun ι' G' H' v => ∀ (x : V), Rep X.K ι' (List.length G') H' v x → Q x H' := p1
          rw [e2] at p2
          exact p2.elim
      | _ => exact p1.elim
  | _ => exact p1.elim
theorem re_meth {c : Nat} {pl : Sem Bool} (ho : RE X E o mo) (F : MF X.prog X.w X.K X.mg X.base CX k c m np f dv) (ar : Arity np f) (hr : Room k X.A) (hx : Passes CX X E) (ha : RA X E (e :: es) mes)
    (hst : starEach (e :: es) X.env = (false, eval e X.env) :: starEach es X.env := by rfl) (hpl : (backTo pos (starEach es X.env)).any (·.1) = false := by rfl)
    (ht : eval (.Call (.Attribute o m apos) (e :: es) [] pos) X.env = (do
      let ov ← eval o X.env
      standAt apos.atName
      let (f, first) ← holding [ov] (getMethod ov m pl)
      callWith pos f first (backTo pos (starEach (e :: es) X.env)) (backToKw pos (keywordEach [] X.env))) := by rfl) : RE X E (.Call (.Attribute o m apos) (e :: es) [] pos) (eMeth [(c, f)] dv mo mes) := by
  obtain ⟨fa, fd, ps, ds, hm, F1, hb, hpd, hd⟩ := F.ex
  exact pe_weak (pe_meth ho F.cls hm F1 hr hb hd hx ha hst hpl ht) (meth_w F rfl ar hpd)
theorem re_meth0 {c : Nat} {pl : Sem Bool} (ho : RE X E o mo) (F : MF X.prog X.w X.K X.mg X.base CX k c m np f dv) (ar : Arity np f) (hr : Room k X.A) (hx : Passes CX X E)
    (ht : eval (.Call (.Attribute o m apos) [] [] pos) X.env = (do
      let ov ← eval o X.env
      standAt apos.atName
      let (f, first) ← holding [ov] (getMethod ov m pl)
      callWith pos f first (backTo pos (starEach [] X.env)) (backToKw pos (keywordEach [] X.env))) := by rfl) : RE X E (.Call (.Attribute o m apos) [] [] pos) (eMeth [(c, f)] dv mo aNil) := by
  obtain ⟨fa, fd, ps, ds, hm, F1, hb, hpd, hd⟩ := F.ex
  refine pe_weak (pe_meth0 ho F.cls hm F1 hr hb hd hx ht) fun σ H Q h => ?_
  obtain ⟨ι, G, ρ, S, sl, q⟩ := meth_w (mes := aNil) F rfl ar hpd σ H Q h
  refine ⟨ι, G, ρ, S, sl, q.mono fun ι' G' H' v x' S' k1 x rx => ?_⟩
  obtain ⟨a, dx, fs, e1, e2, e3, ι2, G2, ρ2, S2, sl2, q2⟩ := k1 x rx
  exact ⟨a, dx, fs, e1, e2, e3, q2.here S2 [] rfl⟩
/-- one of several classes -/
theorem meth_cons {c : Nat} {tb : List (Nat × F1)} (h1 : RE X E e (eMeth [(c, f)] dv mo mes)) (h2 : RE X E e (eMeth tb dv mo mes)) : RE X E e (eMeth ((c, f) :: tb) dv mo mes) := by
  refine pe_weak (pe_orE h1 h2) fun σ H Q ⟨ι, G, ρ, S, sl, q⟩ => ?_
  unfold eMeth at q ⊢
  cases e0 : mo ρ G with
  | bad => simp only [e0] at q; exact q.elim
  | exc c0 G1 =>
    simp only [e0] at q
    exact .inl ⟨ι, G, ρ, S, sl, by simp only [e0]; exact q⟩
  | ok w G1 =>
    simp only [e0] at q
    cases w with
    | obj i =>
      cases e1 : G1[i]? with
      | none => simp only [Res.bind, e1] at q; exact q.elim
      | some ob =>
        cases ob with
        | ins c' vs =>
          simp only [Res.bind, e1, List.lookup_cons] at q
          cases hc : (c' == c) with
          | true =>
            simp only [hc] at q
            refine .inl ⟨ι, G, ρ, S, sl, ?_⟩
            simp only [e0, Res.bind, e1, List.lookup_cons, hc]
            exact q
          | false =>
            simp only [hc] at q
            refine .inr ⟨ι, G, ρ, S, sl, ?_⟩
            simp only [e0, Res.bind, e1]
            exact q
        | _ => simp only [Res.bind, e1] at q; exact q.elim
    | _ => exact q.elim
theorem make_w {c : Nat} {K : PySem.W.Frag} {ι : Vw} {G : Store} {H : Hp} {vs : List Val} {xs : List V} {Q : VK} (ok : ClsOk K c) (ar : Arity np f) (hp : dv.all plain1 = true) (S : Sim K ι G H) (r : Reps K ι G.length H vs xs)
    (q : Post K E ι G.length H ((f (.obj G.length :: (vs ++ dv)) (G ++ [.ins c []])).bind fun v G2 => match v with | .non => .ok (.obj G.length) G2 | _ => .bad) fun ι' G' H' v => ∀ x, Rep K ι' G'.length H' v x → Q x H') :
    ∀ x dx, H x = none → H dx = none → dx ≠ x → spF K np f (.ref x :: (xs ++ dv.map pv1)) (L2.upd (L2.upd H dx (.own x)) x (.ins (He.ga K (cname c)) dx [])) (fun v H2 => v = .non ∧ Q (.ref x) H2) E := fun x dx hx hdx hne => by
  have S1 : Sim K ι G (L2.upd H dx (.own x)) := S.junk hdx
  have hx1 : (L2.upd H dx (.own x)) x = none := by rw [upd_ne (Ne.symm hne)]; exact hx
  have x1 : Ext K ι G.length H ι G.length (L2.upd H dx (.own x)) := Ext.updE (.fresh hdx)
  have x2 : Ext K ι G.length (L2.upd H dx (.own x)) (into ι G.length x) (G.length + 1) (L2.upd (L2.upd H dx (.own x)) x (.ins (He.ga K (cname c)) dx [])) := Ext.push hx1
  have S2 : Sim K (into ι G.length x) (G ++ [.ins c []]) (L2.upd (L2.upd H dx (.own x)) x (.ins (He.ga K (cname c)) dx [])) := S1.push hx1 ⟨ok, dx, [], upd_same, by cases cfields c <;> exact rfl⟩
  have hl : (G ++ [Ob.ins c []]).length = G.length + 1 := by rw [List.length_append, List.length_singleton]
  have x3 : Ext K ι G.length H (into ι G.length x) (G ++ [Ob.ins c []]).length (L2.upd (L2.upd H dx (.own x)) x (.ins (He.ga K (cname c)) dx [])) := by
    rw [hl]
    exact x1.trans x2
  have q2 := Post.bind (Post.ext x3 q)
  refine ⟨into ι G.length x, G ++ [.ins c []], .obj G.length :: (vs ++ dv), S2, ⟨.ref x, _, rfl, ⟨by rw [hl]; exact Nat.lt_succ_self _, by rw [into_eq]⟩, (r.ext x3).append (reps_dfl hp)⟩, ?_, q2.mono fun ι4 G4 H4 v x4 S4 p4 z rz => ?_⟩
  · by_cases h : (Val.obj G.length :: (vs ++ dv)).length = np
    · exact h
    · rw [ar _ _ h] at q2
      exact q2.elim
  · cases v with
    | non =>
      refine ⟨rz, p4.here S4 _ ⟨Nat.lt_of_lt_of_le (by rw [hl]; exact Nat.lt_succ_self _) x4.le, ?_⟩⟩
      rw [x4.same G.length (by rw [hl]; exact Nat.lt_succ_self _), into_eq]
    | _ => exact p4.elim
theorem re_make {c : Nat} {y : Str} (F : CF X.prog X.w X.K X.mg X.base CX k c np f dv) (hy : cname c = y) (ar : Arity np f) (hr : Room (k + 1) X.A) (hg : Gl X y) (hx : Passes CX X E) (ha : RA X E (e :: es) mes) (hdb : (y == ("__debug__" : Str)) = false := by decide)
    (he : starEach (e :: es) X.env = (false, eval e X.env) :: starEach es X.env := by rfl) (hpl : (backTo pos (starEach es X.env)).any (·.1) = false := by rfl) : RE X E (.Call (.Name y p) (e :: es) [] pos) (eMake c f dv mes) := by
  obtain ⟨fa, fd, ps, ds, hM, F1, hb, hpd, hd⟩ := F.ex
  exact pe_weak (pe_make hM F1 hr hg (by rw [← hy]; exact F.glo) hb hd hx ha hdb he hpl) fun σ H Q ⟨ι, G, ρ, S, sl, q⟩ => ⟨ι, G, ρ, S, sl, (Post.bind q).mono fun ι1 G1 H1 vs x1 S1 p1 xs rxs => make_w F.ok ar hpd S1 rxs p1⟩
end
/-! ### a def's body -/
@[irreducible] def runDef (N np : Nat) (b : SM) : F1 := fun vs G => if vs.length = np then (match b (vs.map some ++ List.replicate (N - np) none) G with
  | .next _ G' => .ok .non G'
  | .ret v G' => .ok v G'
  | .exc c G' => .exc c G'
  | _ => .bad) else .bad
theorem runDef_ar {N np : Nat} {b : SM} : Arity np (runDef N np b) := fun vs G h => by
  unfold runDef
  exact if_neg h
section
variable {K : PySem.W.Frag} {ι : Vw} {n : Nat} {H : Hp}
theorem slots_none : ∀ k : Nat, Slots K ι n H (List.replicate k none) (List.replicate k none)
  | 0 => rfl
  | k + 1 => ⟨none, List.replicate k none, rfl, fun w h => (by cases h), slots_none k⟩
theorem slots_start {N : List Str} : ∀ {vs : List Val} {xs : List V} (k : Nat), Reps K ι n H vs xs → Slots K ι n H (vs.map some ++ List.replicate k none) (xs.map some ++ List.replicate k none)
  | [], _, k, h => by rw [show _ = [] from h]; exact slots_none k
  | v :: vs, _, k, ⟨y, ys, h1, h2, h3⟩ => by
    rw [h1]
    exact ⟨some y, _, rfl, fun w hw => ⟨y, rfl, by cases hw; exact h2⟩, slots_start (N := N) k h3⟩
theorem body_w {E : XK} {b : SM} {N : List Str} {np : Nat} {xs : List V} {Q : VK} (h : spF K np (runDef N.length np b) xs H Q E) : tS K E b { nx := fun _ H' => Q .non H', rt := Q } (start N xs) H := by
  obtain ⟨ι, G, vs, S, r, hl, p⟩ := h
  refine ⟨ι, G, vs.map some ++ List.replicate (N.length - np) none, S, ?_, ?_⟩
  · unfold L2.start
    rw [r.length, hl]
    exact slots_start (N := N) _ r
  · unfold runDef at p
    rw [if_pos hl] at p
    cases e : b (vs.map some ++ List.replicate (N.length - np) none) G with
    | next ρ' G' =>
      rw [e] at p
      exact fun ι' H' σ' x S' _ => p ι' H' x S' .non rfl
    | ret v G' =>
      rw [e] at p
      exact fun ι' H' x' x S' r' => p ι' H' x S' x' r'
    | exc c G' =>
      rw [e] at p
      exact p
    | brk ρ' G' => rw [e] at p; exact p.elim
    | cont ρ' G' => rw [e] at p; exact p.elim
    | bad => rw [e] at p; exact p.elim
end
end R1
/-! R1e: loops, comprehensions. -/
namespace R1
open PySem PySem.Spec PyProof.Rows L2
/-! ### while -/
/-- n: more turns than it takes -/
def sWhile (t : TM) (b : SM) : Nat → SM
  | 0 => fun _ _ => .bad
  | n + 1 => fun ρ G => (t ρ G).toS fun k G1 => if k = true then (match b ρ G1 with
      | .next ρ' G' => sWhile t b n ρ' G'
      | .cont ρ' G' => sWhile t b n ρ' G'
      | .brk ρ' G' => .next ρ' G'
      | r => r) else .next ρ G1
section
variable {X : Cx} {E : XK} {c : Expr} {mt : TM} {body : List Stmt} {b : SM} {pos : Pos}
theorem rs_while (n : Nat) (hp : PassesOwn (model X.prog X.w) X.A X.env X.xe) (hc : RT X E c mt) (hb : RSs X E body b) : RS X E (.While c body [] pos) (sWhile mt b n) := by
  refine ps_weak (ps_while hp hc hb) fun D σ H ⟨ι, G, ρ, S, sl, p⟩ => ?_
  refine ⟨fun m σ H => ∃ ι G ρ, Sim X.K ι G H ∧ Slots X.K ι G.length H ρ σ ∧ SPost X.K E ι G.length H (sWhile mt b m ρ G) D, ⟨n, ι, G, ρ, S, sl, p⟩, ?_⟩
  rintro m σ H ⟨ι, G, ρ, S, sl, p⟩
  cases m with
  | zero => exact p.elim
  | succ m =>
    refine ⟨ι, G, ρ, S, sl, (SPost.ofRes p).mono fun ι1 G1 H1 k x1 S1 p1 => ?_⟩
    cases k with
    | false => exact p1 ι1 H1 σ .refl S1 (sl.ext x1)
    | true =>
      refine ⟨fun σ' H' => ∃ ι G ρ, Sim X.K ι G H' ∧ Slots X.K ι G.length H' ρ σ' ∧ SPost X.K E ι G.length H' (sWhile mt b m ρ G) D, fun σ' H' h => ⟨m, Nat.lt_succ_self _, h⟩, ι1, G1, ρ, S1, sl.ext x1, ?_⟩
      have p2 : SPost X.K E ι1 G1.length H1 (match b ρ G1 with
        | .next ρ' G' => sWhile mt b m ρ' G'
        | .cont ρ' G' => sWhile mt b m ρ' G'
        | .brk ρ' G' => .next ρ' G'
        | r => r) D := p1
      cases e : b ρ G1 with
      | next ρ' G' => rw [e] at p2; exact fun ι2 H2 σ2 x2 S2 l2 => ⟨ι2, G', ρ', S2, l2, p2.ext x2⟩
      | cont ρ' G' => rw [e] at p2; exact fun ι2 H2 σ2 x2 S2 l2 => ⟨ι2, G', ρ', S2, l2, p2.ext x2⟩
      | brk ρ' G' => rw [e] at p2; exact p2
      | ret v G' => rw [e] at p2; exact p2
      | exc c G' => rw [e] at p2; exact p2
      | bad => rw [e] at p2; exact p2
end
/-! ### for -/
/-- one turn: the target, the body; go on with k -/
def turn1 (p : Pt) (b : SM) (v : Val) (k : SM) : SM := fun ρ G => match ptSet G p v ρ with
  | none => .bad
  | some ρ1 => (match b ρ1 G with
    | .next ρ' G' => k ρ' G'
    | .cont ρ' G' => k ρ' G'
    | .brk ρ' G' => .next ρ' G'
    | r => r)
/-- over items that stand still -/
def forIt (p : Pt) (b : SM) : List Val → SM
  | [] => fun ρ G => .next ρ G
  | v :: r => turn1 p b v (forIt p b r)
/-- over the list i, as it stands at each turn -/
def forOb (p : Pt) (b : SM) (i : Nat) : List Val → Nat → SM
  | [], k => fun ρ G => match G[i]? with
    | some (.lst l) => if l.length ≤ k then .next ρ G else .bad
    | _ => .bad
  | _ :: r, k => fun ρ G => match G[i]? with
    | some (.lst l) => (match l[k]? with
      | some v => turn1 p b v (forOb p b i r (k + 1)) ρ G
      | none => .bad)
    | _ => .bad
/-- for p in m: b, a list -/
def sForL (m : EM) (p : Pt) (b : SM) : SM := fun ρ G => (m ρ G).toS fun v G1 => match v with
  | .fro l => forIt p b l ρ G1
  | .obj i => (match G1[i]? with
    | some (.lst l) => forOb p b i l 0 ρ G1
    | _ => .bad)
  | _ => .bad
/-- a tuple -/
def sForT (m : EM) (p : Pt) (b : SM) : SM := fun ρ G => (m ρ G).toS fun v G1 => match v with
  | .tup l => forIt p b l ρ G1
  | _ => .bad
def rangeL (lo : Int) (n : Nat) : List Val := (List.range n).map fun i => .int (lo + (i : Nat))
def inLine (i : Int) : Bool := decide (-(2 ^ 62) ≤ i) && decide (i < 2 ^ 62)
def rng1 (vs : List Val) : Option (List Val) := match vs with
  | [.int j] => if inLine j = true then some (rangeL 0 j.toNat) else none
  | _ => none
def rng2 (vs : List Val) : Option (List Val) := match vs with
  | [.int i, .int j] => if inLine i = true ∧ inLine j = true then some (rangeL i (j - i).toNat) else none
  | _ => none
def sForR (rng : List Val → Option (List Val)) (k : AM) (p : Pt) (b : SM) : SM := fun ρ G => (k ρ G).toS fun vs G1 => match rng vs with
  | some l => forIt p b l ρ G1
  | none => .bad
section
variable {X : Cx} {E : XK} {tg iter : Expr} {mi : EM} {p : Pt} {body : List Stmt} {b : SM} {pos : Pos}
/-- the walk over items that stand still: J yields the items of l -/
theorem for_w {K : PySem.W.Frag} {J : It} {D : Ends} {l : List Val} {ι : Vw} {G : Store} {H : Hp} {ρ : Env1} {σ : L2.St}
    (item : ∀ (j : Nat) (ι' : Vw) (n' : Nat) (H' : Hp) v, Ext K ι G.length H ι' n' H' → l[j]? = some v → J.go j H' ∧ ∀ x H2, J.yld j H' x H2 → H2 = H' ∧ Rep K ι' n' H' v x)
    (stop : ∀ (ι' : Vw) (n' : Nat) (H' : Hp), Ext K ι G.length H ι' n' H' → J.stop l.length H')
    (S : Sim K ι G H) (sl : Slots K ι G.length H ρ σ) (q : SPost K E ι G.length H (forIt p b l ρ G) D) :
    ∃ W : Nat → Nat → L2.St → Hp → Prop, (∃ m, W 0 m σ H) ∧ ∀ i m σ H, W i m σ H →
      (J.stop i H ∧ D.nx σ H) ∨ (J.go i H ∧ ∃ N : L2.St → Hp → Prop, (∀ σ' H', N σ' H' → ∃ m', m' < m ∧ W (i + 1) m' σ' H') ∧ ∀ x H', J.yld i H x H' → tG K p x σ H' fun σ2 H2 => tS K E b { D with nx := N, ct := N, bk := D.nx } σ2 H2) := by
  refine ⟨fun i m σ' H' => ∃ ι' G' ρ', Ext K ι G.length H ι' G'.length H' ∧ Sim K ι' G' H' ∧ Slots K ι' G'.length H' ρ' σ' ∧ i + m = l.length ∧ SPost K E ι' G'.length H' (forIt p b (l.drop i) ρ' G') D, ⟨l.length, ι, G, ρ, .refl, S, sl, Nat.zero_add _, q⟩, ?_⟩
  rintro i m σ' H' ⟨ι', G', ρ', x', S', sl', hm, q'⟩
  cases m with
  | zero =>
    have hi : i = l.length := by omega
    subst hi
    rw [List.drop_length] at q'
    exact .inl ⟨stop ι' G'.length H' x', q' ι' H' σ' .refl S' sl'⟩
  | succ m =>
    have hi : i < l.length := by omega
    obtain ⟨v, hv⟩ : ∃ v, l[i]? = some v := ⟨l[i], List.getElem?_eq_getElem hi⟩
    obtain ⟨go, yld⟩ := item i ι' G'.length H' v x' hv
    have ed : l.drop i = v :: l.drop (i + 1) := by
      rw [List.drop_eq_getElem_cons hi]
      rw [List.getElem?_eq_getElem hi] at hv
      rw [Option.some.inj hv]
    rw [ed] at q'
    refine .inr ⟨go, fun σ2 H2 => ∃ ι2 G2 ρ2, Ext K ι G.length H ι2 G2.length H2 ∧ Sim K ι2 G2 H2 ∧ Slots K ι2 G2.length H2 ρ2 σ2 ∧ (i + 1) + m = l.length ∧ SPost K E ι2 G2.length H2 (forIt p b (l.drop (i + 1)) ρ2 G2) D, fun σ2 H2 h => ⟨m, Nat.lt_succ_self _, h⟩, fun x H2 hy => ?_⟩
    obtain ⟨rfl, rx⟩ := yld x H2 hy
    have q2 : SPost K E ι' G'.length H2 (turn1 p b v (forIt p b (l.drop (i + 1))) ρ' G') D := q'
    unfold turn1 at q2
    cases e : ptSet G' p v ρ' with
    | none => rw [e] at q2; exact q2.elim
    | some ρ1 =>
      rw [e] at q2
      have q1 : SPost K E ι' G'.length H2 (match b ρ1 G' with
        | .next ρ' G' => forIt p b (l.drop (i + 1)) ρ' G'
        | .cont ρ' G' => forIt p b (l.drop (i + 1)) ρ' G'
        | .brk ρ' G' => .next ρ' G'
        | r => r) D := q2
      refine ⟨ι', G', v, ρ', ρ1, S', rx, sl', e, fun σ3 l3 _ _ => ⟨ι', G', ρ1, S', l3, ?_⟩⟩
      cases e2 : b ρ1 G' with
      | next ρ4 G4 => rw [e2] at q1; exact fun ι2 H2 σ2 x2 S2 l2 => ⟨ι2, G4, ρ4, x'.trans x2, S2, l2, by omega, q1.ext x2⟩
      | cont ρ4 G4 => rw [e2] at q1; exact fun ι2 H2 σ2 x2 S2 l2 => ⟨ι2, G4, ρ4, x'.trans x2, S2, l2, by omega, q1.ext x2⟩
      | brk ρ4 G4 => rw [e2] at q1; exact q1
      | ret v G4 => rw [e2] at q1; exact q1
      | exc c G4 => rw [e2] at q1; exact q1
      | bad => rw [e2] at q1; exact q1
theorem itt_w {K : PySem.W.Frag} {a : Addr} {l : List Val} {xs : List V} {ι : Vw} {n : Nat} {H : Hp} (h : SqT K H a xs) (r : Reps K ι n H l xs) :
    (∀ (j : Nat) (ι' : Vw) (n' : Nat) (H' : Hp) v, Ext K ι n H ι' n' H' → l[j]? = some v → (Itt K a).go j H' ∧ ∀ x H2, (Itt K a).yld j H' x H2 → H2 = H' ∧ Rep K ι' n' H' v x) ∧
    (∀ (ι' : Vw) (n' : Nat) (H' : Hp), Ext K ι n H ι' n' H' → (Itt K a).stop l.length H') := by
  refine ⟨fun j ι' n' H' v x hv => ?_, fun ι' n' H' x => ⟨xs, x.tup a xs h, by rw [r.length]; exact Nat.le_refl _⟩⟩
  obtain ⟨y, hy, ry⟩ := r.get hv
  refine ⟨⟨xs, y, x.tup a xs h, hy⟩, fun z H2 ⟨e, k⟩ => ⟨e, ?_⟩⟩
  have q := k xs (x.tup a xs h)
  rw [hy] at q
  rw [← Option.some.inj q]
  exact ry.ext x
theorem itf_w {K : PySem.W.Frag} {a : Addr} {l : List Val} {xs : List V} {ι : Vw} {n : Nat} {H : Hp} (h : SqF ι.M H a xs) (r : Reps K ι n H l xs) :
    (∀ (j : Nat) (ι' : Vw) (n' : Nat) (H' : Hp) v, Ext K ι n H ι' n' H' → l[j]? = some v → (Itl K a).go j H' ∧ ∀ x H2, (Itl K a).yld j H' x H2 → H2 = H' ∧ Rep K ι' n' H' v x) ∧
    (∀ (ι' : Vw) (n' : Nat) (H' : Hp), Ext K ι n H ι' n' H' → (Itl K a).stop l.length H') := by
  refine ⟨fun j ι' n' H' v x hv => ?_, fun ι' n' H' x => ⟨xs, (x.fro a xs h).l, by rw [r.length]; exact Nat.le_refl _⟩⟩
  obtain ⟨y, hy, ry⟩ := r.get hv
  refine ⟨⟨xs, y, (x.fro a xs h).l, hy⟩, fun z H2 ⟨e, k⟩ => ⟨e, ?_⟩⟩
  have q := k xs (x.fro a xs h).l
  rw [hy] at q
  rw [← Option.some.inj q]
  exact ry.ext x
theorem itr_w {K : PySem.W.Frag} {lo : Int} {m : Nat} {ι : Vw} {n : Nat} {H : Hp} :
    (∀ (j : Nat) (ι' : Vw) (n' : Nat) (H' : Hp) v, Ext K ι n H ι' n' H' → (rangeL lo m)[j]? = some v → (Itr lo m).go j H' ∧ ∀ x H2, (Itr lo m).yld j H' x H2 → H2 = H' ∧ Rep K ι' n' H' v x) ∧
    (∀ (ι' : Vw) (n' : Nat) (H' : Hp), Ext K ι n H ι' n' H' → (Itr lo m).stop (rangeL lo m).length H') := by
  have hl : (rangeL lo m).length = m := by simp [rangeL]
  refine ⟨fun j ι' n' H' v x hv => ?_, fun ι' n' H' x => (by rw [hl]; exact Nat.le_refl m)⟩
  have hj : j < m := by rw [← hl]; exact (List.getElem?_eq_some_iff.mp hv).1
  refine ⟨hj, fun z H2 ⟨e1, e2⟩ => ⟨e1, ?_⟩⟩
  have e3 : v = .int (lo + (j : Nat)) := by
    unfold rangeL at hv
    rw [List.getElem?_map, List.getElem?_range hj] at hv
    exact (Option.some.inj hv).symm
  rw [e3, e2]
  exact rfl
theorem rs_forT (hp : PassesOwn (model X.prog X.w) X.A X.env X.xe) (hc : X.calm = true) (hi : RE X E iter mi) (hg : RG X tg p) (hb : RSs X E body b) (hs : ∀ x, foldedSetIterable iter X.env x = pure x := by intro _; rfl) :
    RS X E (.For tg iter body [] pos) (sForT mi p b) := by
  refine ps_weak (ps_for hp hc (pi_tup hi) hg hb hs) fun D σ H ⟨ι, G, ρ, S, sl, q⟩ => run1 S sl (q.ofRes.mono fun ι1 G1 H1 v x1 S1 q1 x rx => ?_)
  cases v with
  | tup l =>
    obtain ⟨a, xs, ex, h1, h2⟩ := rx
    exact ⟨a, ex, ⟨xs, h1⟩, for_w (itt_w h1 h2).1 (itt_w h1 h2).2 S1 (sl.ext x1) q1⟩
  | _ => exact q1.elim
/-- the walk over a list of the store -/
theorem forOb_w {K : PySem.W.Frag} {D : Ends} {l : List Val} {i : Nat} {ι : Vw} {G : Store} {H : Hp} {ρ : Env1} {σ : L2.St} (hi : i < G.length) (S : Sim K ι G H) (sl : Slots K ι G.length H ρ σ) (q : SPost K E ι G.length H (forOb p b i l 0 ρ G) D) :
    ∃ W : Nat → Nat → L2.St → Hp → Prop, (∃ m, W 0 m σ H) ∧ ∀ j m σ H, W j m σ H →
      ((Itl K (ι i)).stop j H ∧ D.nx σ H) ∨ ((Itl K (ι i)).go j H ∧ ∃ N : L2.St → Hp → Prop, (∀ σ' H', N σ' H' → ∃ m', m' < m ∧ W (j + 1) m' σ' H') ∧ ∀ x H', (Itl K (ι i)).yld j H x H' → tG K p x σ H' fun σ2 H2 => tS K E b { D with nx := N, ct := N, bk := D.nx } σ2 H2) := by
  refine ⟨fun j m σ' H' => ∃ ι' G' ρ' r, Ext K ι G.length H ι' G'.length H' ∧ Sim K ι' G' H' ∧ Slots K ι' G'.length H' ρ' σ' ∧ r.length = m ∧ SPost K E ι' G'.length H' (forOb p b i r j ρ' G') D, ⟨l.length, ι, G, ρ, l, .refl, S, sl, rfl, q⟩, ?_⟩
  rintro j m σ' H' ⟨ι', G', ρ', r, x', S', sl', hm, q'⟩
  have ea : ι' i = ι i := x'.same i hi
  cases r with
  | nil =>
    have q2 : SPost K E ι' G'.length H' (match G'[i]? with | some (.lst l) => (if l.length ≤ j then .next ρ' G' else .bad) | _ => .bad) D := q'
    cases e : G'[i]? with
    | none => rw [e] at q2; exact q2.elim
    | some o =>
      rw [e] at q2
      cases o with
      | lst l' =>
        have q3 : SPost K E ι' G'.length H' (if l'.length ≤ j then .next ρ' G' else .bad) D := q2
        by_cases hl : l'.length ≤ j
        · rw [if_pos hl] at q3
          obtain ⟨xs, h1, h2⟩ := S'.lst e
          rw [ea] at h1
          exact .inl ⟨⟨xs, .of h1, by rw [h2.length]; exact hl⟩, q3 ι' H' σ' .refl S' sl'⟩
        · rw [if_neg hl] at q3
          exact q3.elim
      | _ => exact q2.elim
  | cons w r =>
    have q2 : SPost K E ι' G'.length H' (match G'[i]? with | some (.lst l) => (match l[j]? with | some v => turn1 p b v (forOb p b i r (j + 1)) ρ' G' | none => .bad) | _ => .bad) D := q'
    cases e : G'[i]? with
    | none => rw [e] at q2; exact q2.elim
    | some o =>
      rw [e] at q2
      cases o with
      | lst l' =>
        have q3 : SPost K E ι' G'.length H' (match l'[j]? with | some v => turn1 p b v (forOb p b i r (j + 1)) ρ' G' | none => .bad) D := q2
        cases e2 : l'[j]? with
        | none => rw [e2] at q3; exact q3.elim
        | some v =>
          rw [e2] at q3
          obtain ⟨xs, h1, h2⟩ := S'.lst e
          rw [ea] at h1
          obtain ⟨y, hy, ry⟩ := h2.get e2
          have hm' : r.length < m := by rw [← hm]; exact Nat.lt_succ_self _
          refine .inr ⟨⟨xs, y, .of h1, hy⟩, fun σ2 H2 => ∃ ι2 G2 ρ2, Ext K ι G.length H ι2 G2.length H2 ∧ Sim K ι2 G2 H2 ∧ Slots K ι2 G2.length H2 ρ2 σ2 ∧ SPost K E ι2 G2.length H2 (forOb p b i r (j + 1) ρ2 G2) D, fun σ2 H2 ⟨ι2, G2, ρ2, a1, a2, a3, a4⟩ => ⟨r.length, hm', ι2, G2, ρ2, r, a1, a2, a3, rfl, a4⟩, fun x H2 ⟨eh, ky⟩ => ?_⟩
          subst eh
          have ex := ky xs (.of h1)
          rw [hy] at ex
          cases ex
          have q4 : SPost K E ι' G'.length H2 (turn1 p b v (forOb p b i r (j + 1)) ρ' G') D := q3
          unfold turn1 at q4
          cases e4 : ptSet G' p v ρ' with
          | none => rw [e4] at q4; exact q4.elim
          | some ρ1 =>
            rw [e4] at q4
            have q1 : SPost K E ι' G'.length H2 (match b ρ1 G' with
              | .next ρ' G' => forOb p b i r (j + 1) ρ' G'
              | .cont ρ' G' => forOb p b i r (j + 1) ρ' G'
              | .brk ρ' G' => .next ρ' G'
              | r => r) D := q4
            refine ⟨ι', G', v, ρ', ρ1, S', ry, sl', e4, fun σ3 l3 _ _ => ⟨ι', G', ρ1, S', l3, ?_⟩⟩
            cases e5 : b ρ1 G' with
            | next ρ4 G4 => rw [e5] at q1; exact fun ι2 H2 σ2 x2 S2 l2 => ⟨ι2, G4, ρ4, x'.trans x2, S2, l2, q1.ext x2⟩
            | cont ρ4 G4 => rw [e5] at q1; exact fun ι2 H2 σ2 x2 S2 l2 => ⟨ι2, G4, ρ4, x'.trans x2, S2, l2, q1.ext x2⟩
            | brk ρ4 G4 => rw [e5] at q1; exact q1
            | ret v G4 => rw [e5] at q1; exact q1
            | exc c G4 => rw [e5] at q1; exact q1
            | bad => rw [e5] at q1; exact q1
      | _ => exact q2.elim
theorem rs_forL (hp : PassesOwn (model X.prog X.w) X.A X.env X.xe) (hc : X.calm = true) (hi : RE X E iter mi) (hg : RG X tg p) (hb : RSs X E body b) (hs : ∀ x, foldedSetIterable iter X.env x = pure x := by intro _; rfl) :
    RS X E (.For tg iter body [] pos) (sForL mi p b) := by
  refine ps_weak (ps_for hp hc (pi_list hi) hg hb hs) fun D σ H ⟨ι, G, ρ, S, sl, q⟩ => run1 S sl (q.ofRes.mono fun ι1 G1 H1 v x1 S1 q1 x rx => ?_)
  cases v with
  | fro l =>
    obtain ⟨a, xs, ex, h1, h2⟩ := rx
    exact ⟨a, ex, ⟨xs, h1.l⟩, for_w (itf_w h1 h2).1 (itf_w h1 h2).2 S1 (sl.ext x1) q1⟩
  | obj i =>
    cases e : G1[i]? with
    | none => simp only [e] at q1; exact q1.elim
    | some o =>
      simp only [e] at q1
      cases o with
      | lst l =>
        obtain ⟨xs, h1, h2⟩ := S1.lst e
        exact ⟨ι1 i, rx.2, ⟨xs, .of h1⟩, forOb_w rx.1 S1 (sl.ext x1) q1⟩
      | _ => exact q1.elim
  | _ => exact q1.elim
theorem rng1_inv {K : PySem.W.Frag} {ι : Vw} {n : Nat} {H : Hp} {vs l : List Val} {xs : List V} (r : Reps K ι n H vs xs) (h : rng1 vs = some l) :
    ∃ j : Int, xs = [.int j] ∧ -(2 ^ 62) ≤ j ∧ j < 2 ^ 62 ∧ l = rangeL 0 j.toNat := by
  unfold rng1 at h
  cases vs with
  | nil => cases h
  | cons v vs =>
    cases vs with
    | nil =>
      cases v with
      | int j =>
        have h1 : (if inLine j = true then some (rangeL 0 j.toNat) else none) = some l := h
        by_cases c : inLine j = true
        · rw [if_pos c] at h1
          obtain ⟨c1, c2⟩ := Bool.and_eq_true_iff.mp c
          obtain ⟨x, rfl, rx⟩ := reps1 r
          exact ⟨j, by rw [show x = V.int j from rx], of_decide_eq_true c1, of_decide_eq_true c2, (Option.some.inj h1).symm⟩
        · rw [if_neg c] at h1
          cases h1
      | _ => cases h
    | cons w vs => cases v <;> cases h
theorem rng2_inv {K : PySem.W.Frag} {ι : Vw} {n : Nat} {H : Hp} {vs l : List Val} {xs : List V} (r : Reps K ι n H vs xs) (h : rng2 vs = some l) :
    ∃ i j : Int, xs = [.int i, .int j] ∧ (-(2 ^ 62) ≤ i ∧ i < 2 ^ 62 ∧ -(2 ^ 62) ≤ j ∧ j < 2 ^ 62) ∧ l = rangeL i (j - i).toNat := by
  unfold rng2 at h
  cases vs with
  | nil => cases h
  | cons v vs =>
    cases vs with
    | nil => cases v <;> cases h
    | cons w vs =>
      cases vs with
      | cons _ _ => cases v <;> (try cases h) <;> (cases w <;> cases h)
      | nil =>
        cases v with
        | int i =>
          cases w with
          | int j =>
            have h1 : (if inLine i = true ∧ inLine j = true then some (rangeL i (j - i).toNat) else none) = some l := h
            by_cases c : inLine i = true ∧ inLine j = true
            · rw [if_pos c] at h1
              obtain ⟨c1, c2⟩ := Bool.and_eq_true_iff.mp c.1
              obtain ⟨c3, c4⟩ := Bool.and_eq_true_iff.mp c.2
              obtain ⟨x, y, rfl, rx, ry⟩ := reps2 r
              exact ⟨i, j, by rw [show x = V.int i from rx, show y = V.int j from ry], ⟨of_decide_eq_true c1, of_decide_eq_true c2, of_decide_eq_true c3, of_decide_eq_true c4⟩, (Option.some.inj h1).symm⟩
            · rw [if_neg c] at h1
              cases h1
          | _ => cases h
        | _ => cases h
theorem rs_forR1 {a : Expr} {ma : AM} {pr pos' : Pos} (hp : PassesOwn (model X.prog X.w) X.A X.env X.xe) (hc : X.calm = true) (hgl : Gl X "range") (hm : X.mg "range" = none) (ha : RA X E [a] ma) (hg : RG X tg p) (hb : RSs X E body b)
    (hs1 : starEach [a] X.env = [(false, eval a X.env)] := by rfl) (hs : ∀ x, foldedSetIterable (.Call (.Name "range" pr) [a] [] pos') X.env x = pure x := by intro _; rfl) :
    RS X E (.For tg (.Call (.Name "range" pr) [a] [] pos') body [] pos) (sForR rng1 ma p b) := by
  refine ps_weak (ps_for hp hc (pi_range1 hgl hm ha hs1) hg hb hs) fun D σ H ⟨ι, G, ρ, S, sl, q⟩ => ⟨ι, G, ρ, S, sl, q.ofRes.mono fun ι1 G1 H1 vs x1 S1 q1 xs rxs => ?_⟩
  cases e : rng1 vs with
  | none => rw [e] at q1; exact q1.elim
  | some l =>
    rw [e] at q1
    obtain ⟨j, e1, h1, h2, rfl⟩ := rng1_inv rxs e
    exact ⟨j, e1, h1, h2, for_w itr_w.1 itr_w.2 S1 (sl.ext x1) q1⟩
end
end R1
/-! R1f: comprehensions; walks over dicts. -/
namespace R1
open PySem PySem.Spec PyProof.Rows L2
theorem run2 {K : PySem.W.Frag} {E : XK} {ma : EM} {σ : L2.St} {H : Hp} {ι : Vw} {G : Store} {ρ : Env1} {R : V → Hp → Prop} (S : Sim K ι G H) (sl : Slots K ι G.length H ρ σ)
    (h : Post K E ι G.length H (ma ρ G) fun ι' G' H' v => ∀ x, Rep K ι' G'.length H' v x → R x H') : tE K E ma σ H R := ⟨ι, G, ρ, S, sl, h⟩
def wipe1 (ρ : Env1) : List Nat → Env1
  | [] => ρ
  | v :: vs => (wipe1 ρ vs).set v none
def tTrue : TM := fun _ G => .ok true G
theorem wipe_get {σ : L2.St} : ∀ {vs : List Nat} {j : Nat}, (wipe σ vs)[j]? = if j ∈ vs then (σ[j]?).map (fun _ => none) else σ[j]?
  | [], j => by simp [wipe]
  | v :: vs, j => by
    unfold wipe
    rw [List.getElem?_set]
    by_cases h : v = j
    · subst h
      rw [if_pos rfl, if_pos (List.mem_cons_self ..), wipe_length]
      by_cases hl : v < σ.length
      · rw [if_pos hl, List.getElem?_eq_getElem hl]
        rfl
      · rw [if_neg hl, List.getElem?_eq_none (Nat.le_of_not_lt hl)]
        rfl
    · rw [if_neg h, wipe_get]
      by_cases hm : j ∈ vs
      · rw [if_pos hm, if_pos (List.mem_cons_of_mem _ hm)]
      · rw [if_neg hm, if_neg fun q => (List.mem_cons.mp q).elim (fun e => h e.symm) hm]
theorem wipe_same {σ σ2 : L2.St} {vs l : List Nat} (hl : ∀ i ∈ l, i ∈ vs) (hn : σ2.length = (wipe σ vs).length) (h : ∀ j, j ∉ l → σ2[j]? = (wipe σ vs)[j]?) : wipe σ2 vs = wipe σ vs := by
  refine List.ext_getElem? fun j => ?_
  rw [wipe_get]
  rw [wipe_length] at hn
  by_cases hm : j ∈ vs
  · rw [if_pos hm, wipe_get, if_pos hm]
    by_cases hj : j < σ.length
    · rw [List.getElem?_eq_getElem hj, List.getElem?_eq_getElem (by omega)]
      rfl
    · rw [List.getElem?_eq_none (by omega), List.getElem?_eq_none (by omega)]
  · rw [if_neg hm]
    exact h j fun q => hm (hl j q)
section
variable {K : PySem.W.Frag} {ι : Vw} {n : Nat} {H : Hp}
theorem Slots.wipe {ρ : Env1} {σ : L2.St} (h : Slots K ι n H ρ σ) : ∀ vs : List Nat, Slots K ι n H (wipe1 ρ vs) (L2.wipe σ vs)
  | [] => h
  | v :: vs => (Slots.wipe h vs).drop v none
end
section
variable {X : Cx} {E : XK} {tg iter elt : Expr} {ifs : List Expr} {scope : Scope} {own : List (Str × Nat)} {mi te : EM} {tt : TM} {p : Pt} {pos : Pos}
theorem rts_nil {Y : Cx} : PTs Y [] (tT Y.K E tTrue) := ⟨fun pins s σ H Q I ⟨ι, G, ρ, S, sl, p⟩ => pts_nil.run pins s σ H Q I (p.here S)⟩
theorem rts_one {Y : Cx} {c : Expr} (h : RT Y E c tt) : PTs Y [c] (tT Y.K E tt) := pts_one h
abbrev Blk (X : Cx) (scope : Scope) (s : Shared) (H : Hp) (C : Addr) (cl : List (Str × Addr)) (fp : List Addr) : Cx := X.blk s H scope (compEnvC scope cl C X.env) fp
/-- name = [..] on one line -/
theorem rs_setLc {i : Nat} {y : Str} {py spos : Pos} {wi : TI} {m : EM} (hc : X.calm = true) (hN : X.N.Nodup) (hy : X.N[i]? = some y) (hyl : X.env.scope.names.lookup y = some .local)
    (hsw : swapsWith (.ListComp elt [⟨tg, iter, ifs, 0⟩] scope pos) (some (.Name y py)) spos.line X.env = pure true) (hi : PI X tg iter wi) (ok : BlkOk X.N X.env.scope scope own)
    (hg : ∀ s H C cl fp, RG (Blk X scope s H C cl fp) tg p) (ht : ∀ s H C cl fp, PTs (Blk X scope s H C cl fp) ifs (tT X.K E tt)) (he : ∀ s H C cl fp, RE (Blk X scope s H C cl fp) E elt te)
    (w : ∀ σ H Q, tE X.K E m σ H Q → tLc wi (tG X.K p) (tT X.K E tt) (tE X.K E te) (own.map (·.2)) σ H Q) (hs : ∀ x, foldedSetIterable iter X.env x = pure x := by intro _; rfl) :
    RS X E (.Assign [.Name y py] (.ListComp elt [⟨tg, iter, ifs, 0⟩] scope pos) spos) (sSet i m) :=
  ps_weak (ps_setLc (g := tG X.K p) (tt := tT X.K E tt) (te := tE X.K E te) hc hN hy hyl hsw hi ok hg ht he hs) fun D σ H ⟨ι, G, ρ, S, sl, q⟩ => w σ H _ (run1 S sl (q.ofRes.mono fun ι1 G1 H1 v x1 S1 p1 x rx => p1 ι1 H1 (σ.set i (some x)) .refl S1 ((sl.ext x1).set rx i)))
end
end R1
/-! R1fz: comprehensions whose list is never changed. -/
namespace R1
open PySem PySem.Spec PyProof.Rows L2
/-- one turn; go on with k -/
def lcFT (p : Pt) (tt : TM) (te : EM) (ρw : Env1) (v : Val) (k : Store → Res (List Val)) (G : Store) : Res (List Val) := match ptSet G p v ρw with
  | none => .bad
  | some ρ2 => (tt ρ2 G).bind fun b G1 => if b = true then (te ρ2 G1).bind fun w G2 => (k G2).bind fun ws G3 => .ok (w :: ws) G3 else k G1
def lcF (p : Pt) (tt : TM) (te : EM) (ρw : Env1) : List Val → Store → Res (List Val)
  | [], G => .ok [] G
  | v :: r, G => lcFT p tt te ρw v (lcF p tt te ρw r) G
def lcFob (p : Pt) (tt : TM) (te : EM) (ρw : Env1) (i : Nat) : List Val → Nat → Store → Res (List Val)
  | [], k, G => (match G[i]? with
    | some (.lst l) => if l.length ≤ k then .ok [] G else .bad
    | _ => .bad)
  | _ :: r, k, G => (match G[i]? with
    | some (.lst l) => (match l[k]? with
      | some v => lcFT p tt te ρw v (lcFob p tt te ρw i r (k + 1)) G
      | none => .bad)
    | _ => .bad)
def froR (z : Bool) (r : Res (List Val)) : Res Val := r.bind fun ws G => mkL z ws G
/-- [te for p in m if tt]: m a list, a tuple -/
def eLcF (z : Bool) (m : EM) (p : Pt) (tt : TM) (te : EM) (own : List Nat) : EM := fun ρ G => (m ρ G).bind fun v G1 => match v with
  | .tup l => if l.length ≤ sizeLine then froR z (lcF p tt te (wipe1 ρ own) l G1) else .bad
  | .fro l => if l.length ≤ sizeLine then froR z (lcF p tt te (wipe1 ρ own) l G1) else .bad
  | .obj i => (match G1[i]? with
    | some (.lst l) => if l.length ≤ sizeLine then froR z (lcFob p tt te (wipe1 ρ own) i l 0 G1) else .bad
    | _ => .bad)
  | _ => .bad
def eLcFR (z : Bool) (rng : List Val → Option (List Val)) (m : AM) (p : Pt) (tt : TM) (te : EM) (own : List Nat) : EM := fun ρ G => (m ρ G).bind fun vs G1 => match rng vs with
  | some l => if l.length ≤ sizeLine then froR z (lcF p tt te (wipe1 ρ own) l G1) else .bad
  | none => .bad
section
variable {K : PySem.W.Frag} {E : XK} {ι ι' ι2 : Vw} {n n' n2 : Nat} {H H' H2 : Hp} {α β : Type}
theorem Post.bind0 {r : Res α} {f : α → Store → Res β} {k : Vw → Store → Hp → β → Prop} (x : Ext K ι n H ι' n' H') (h : Post K E ι n H (r.bind f) k) : Post K E ι' n' H' r fun ι2 G2 H2 v => Ext K ι n H ι2 G2.length H2 ∧ Post K E ι n H (f v G2) k := by
  cases r with
  | ok v G' => exact fun ι2 H2 e s => ⟨x.trans e, h⟩
  | exc c G' => exact fun ι2 H2 e s => h ι2 H2 (x.trans e) s
  | bad => exact h
/-- the address D is held aside -/
def Vw.add (ι : Vw) (D : Addr) : Vw := ⟨ι.f, fun a => ι.M a ∨ a = D⟩
def Vw.sub (ι : Vw) (D : Addr) : Vw := ⟨ι.f, fun a => ι.M a ∧ a ≠ D⟩
theorem Ext.add {D : Addr} {u : HO} (hD : H D = none) : Ext K ι n H (ι.add D) n (L2.upd H D u) :=
  ⟨Nat.le_refl _, fun _ _ => rfl, fun _ _ h => SqT.updT (ι := ι) (n := n) (.fresh hD) h, fun a xs h => by
    have ne := ne_of_none h.1 hD
    exact ⟨by rw [upd_ne ne]; exact h.1, fun m => m.elim h.2 ne⟩, fun a xs h => by
    obtain ⟨h | ⟨z, h⟩, hm⟩ := h
    · have ne := ne_of_none h hD
      exact ⟨.inl (by rw [upd_ne ne]; exact h), fun m => m.elim hm ne⟩
    · have ne := ne_of_none h hD
      exact ⟨.inr ⟨z, by rw [upd_ne ne]; exact h⟩, fun m => m.elim hm ne⟩, frz_upd (ι := ι) (n := n) (.fresh hD), fun a u h1 h2 h3 => by
    have ne := ne_of_none h3 hD
    exact ⟨by rw [upd_ne ne]; exact h3, .inl h1, h2⟩⟩
theorem Sim.rng {G : Store} {D : Addr} (S : Sim K ι G H) (hD : H D = none) : ∀ i, i < G.length → ι i ≠ D := fun i hi e => by
  obtain ⟨v, h, _⟩ := (S.obj i _ (List.getElem?_eq_getElem hi)).there
  rw [e, hD] at h
  cases h
theorem Sim.add {G : Store} {D : Addr} {u : HO} (S : Sim K ι G H) (hD : H D = none) : Sim K (ι.add D) G (L2.upd H D u) :=
  ⟨S.inj, fun i hi => .inl (S.mu i hi), fun a m => by
    by_cases e : a = D
    · subst e
      exact ⟨u, upd_same⟩
    · rw [upd_ne e]
      exact S.dom a (m.resolve_right e), fun i o e => (S.obj i o e).ext (Ext.add hD) fun v hv => by rw [upd_ne (ne_of_none hv hD)]; exact hv⟩
/-- what lies at D, held aside, is changed -/
theorem Ext.updR {D : Addr} {w : HO} {o : HO} (x : Ext K ι n H ι' n' H') (hD : H D = none) (h : H' D = some w) (hw : Mutl w) (m : ι'.M D) : Ext K ι n H ι' n' (L2.upd H' D o) :=
  ⟨x.le, x.same, fun a ys q => by
    have q2 := x.tup a ys q
    rcases q2 with (q2 | ⟨z, q2⟩) | q2
    · exact .inl (.inl (by rw [upd_ne fun e => by rw [e, h] at q2; cases q2; exact hw]; exact q2))
    · exact .inl (.inr ⟨z, by rw [upd_ne fun e => by rw [e, h] at q2; cases q2; exact hw]; exact q2⟩)
    · exact .inr q2, fun a ys q => by
    have q2 := x.fro a ys q
    exact ⟨by rw [upd_ne fun e => q2.2 (by rw [e]; exact m)]; exact q2.1, q2.2⟩, fun a ys q => by
    have q2 := x.frd a ys q
    have ne : a ≠ D := fun e => q2.2 (by rw [e]; exact m)
    obtain ⟨q3 | ⟨z, q3⟩, q4⟩ := q2
    · exact ⟨.inl (by rw [upd_ne ne]; exact q3), q4⟩
    · exact ⟨.inr ⟨z, by rw [upd_ne ne]; exact q3⟩, q4⟩, fun a z u q => by
    have q2 := x.frz a z u q
    rw [upd_ne fun e => by rw [e, h] at q2; cases q2; exact hw]
    exact q2, fun a u h1 h2 h3 => by
    obtain ⟨e1, e2, e3⟩ := x.res a u h1 h2 h3
    exact ⟨by rw [upd_ne (ne_of_none h3 hD)]; exact e1, e2, e3⟩⟩
theorem updR0 {D : Addr} {w : HO} {o : HO} (h : H D = some w) (hw : Mutl w) (m : ι.M D) : Ext0 K ι n H ι n (L2.upd H D o) :=
  ⟨Nat.le_refl _, fun _ _ => rfl, fun a ys q2 => by
    rcases q2 with (q2 | ⟨z, q2⟩) | q2
    · exact .inl (.inl (by rw [upd_ne fun e => by rw [e, h] at q2; cases q2; exact hw]; exact q2))
    · exact .inl (.inr ⟨z, by rw [upd_ne fun e => by rw [e, h] at q2; cases q2; exact hw]; exact q2⟩)
    · exact .inr q2, fun a ys q2 => ⟨by rw [upd_ne fun e => q2.2 (by rw [e]; exact m)]; exact q2.1, q2.2⟩, fun a ys q2 => by
    have ne : a ≠ D := fun e => q2.2 (by rw [e]; exact m)
    obtain ⟨q3 | ⟨z, q3⟩, q4⟩ := q2
    · exact ⟨.inl (by rw [upd_ne ne]; exact q3), q4⟩
    · exact ⟨.inr ⟨z, by rw [upd_ne ne]; exact q3⟩, q4⟩, fun a ys q2 => by
    rcases q2 with ⟨z, q2⟩ | q2
    · exact .inl ⟨z, by rw [upd_ne fun e => by rw [e, h] at q2; cases q2; exact hw]; exact q2⟩
    · exact .inr q2⟩
theorem Sim.updR {G : Store} {D : Addr} {w : HO} {o : HO} (S : Sim K ι G H) (h : H D = some w) (hw : Mutl w) (m : ι.M D) (r : ∀ i, i < G.length → ι i ≠ D) : Sim K ι G (L2.upd H D o) :=
  ⟨S.inj, S.mu, dom_upd S.dom, fun i ob e => (S.obj i ob e).ext0 (updR0 h hw m) fun v hv => by rw [upd_ne (r i (List.getElem?_eq_some_iff.mp e).1)]; exact hv⟩
/-- D is let go -/
theorem sub0 {D : Addr} (r : ∀ i, i < n → ι i ≠ D) : Ext0 K ι n H (ι.sub D) n H :=
  ⟨Nat.le_refl _, fun _ _ => rfl, fun _ _ h => h, fun _ _ h => ⟨h.1, fun m => h.2 m.1⟩, fun _ _ h => ⟨h.1, fun m => h.2 m.1⟩, fun _ _ h => h⟩
theorem Ext.sub {D : Addr} (x : Ext K ι n H ι' n' H') (hD : H D = none) : Ext K ι n H (ι'.sub D) n' H' :=
  ⟨x.le, x.same, x.tup, fun a xs h => have q := x.fro a xs h; ⟨q.1, fun m => q.2 m.1⟩, fun a xs h => have q := x.frd a xs h; ⟨q.1, fun m => q.2 m.1⟩, x.frz, fun a u h1 h2 h3 => by
    obtain ⟨e1, e2, e3⟩ := x.res a u h1 h2 h3
    exact ⟨e1, ⟨e2, ne_of_none h3 hD⟩, e3⟩⟩
theorem Sim.sub {G : Store} {D : Addr} (S : Sim K ι G H) (r : ∀ i, i < G.length → ι i ≠ D) : Sim K (ι.sub D) G H :=
  ⟨S.inj, fun i hi => ⟨S.mu i hi, r i hi⟩, fun a m => S.dom a m.1, fun i o e => (S.obj i o e).ext0 (sub0 r) fun _ h => h⟩
/-- D becomes an object of the store -/
theorem Ext.own {D : Addr} (x : Ext K ι n H ι' n' H') (hD : H D = none) (m : ι'.M D) : Ext K ι n H (into ι' n' D) (n' + 1) H' :=
  ⟨Nat.le_succ_of_le x.le, fun i h => (into_lt (Nat.lt_of_lt_of_le h x.le)).trans (x.same i h), x.tup, fun a xs h => have q := x.fro a xs h; ⟨q.1, fun k => k.elim q.2 fun e => q.2 (by rw [e]; exact m)⟩, fun a xs h => have q := x.frd a xs h; ⟨q.1, fun k => k.elim q.2 fun e => q.2 (by rw [e]; exact m)⟩, x.frz, fun a u h1 h2 h3 => by
    obtain ⟨e1, e2, e3⟩ := x.res a u h1 h2 h3
    refine ⟨e1, .inl e2, fun i hi e => ?_⟩
    by_cases h : i = n'
    · subst h
      rw [into_eq] at e
      exact ne_of_none h3 hD e.symm
    · have hi' : i < n' := by omega
      rw [into_lt hi'] at e
      exact e3 i hi' e⟩
theorem own0 {D : Addr} (m : ι.M D) : Ext0 K ι n H (into ι n D) (n + 1) H :=
  ⟨Nat.le_succ _, fun _ h => into_lt h, fun _ _ h => h, fun _ _ q => ⟨q.1, fun k => k.elim q.2 fun e => q.2 (by rw [e]; exact m)⟩, fun _ _ q => ⟨q.1, fun k => k.elim q.2 fun e => q.2 (by rw [e]; exact m)⟩, fun _ _ h => h⟩
theorem Sim.own {G : Store} {D : Addr} {o : Ob} (S : Sim K ι G H) (m : ι.M D) (r : ∀ i, i < G.length → ι i ≠ D) (ho : ORep K ι G.length H o D) : Sim K (into ι G.length D) (G ++ [o]) H := by
  refine ⟨fun i j hi hj e => ?_, fun i hi => ?_, fun a k => ?_, fun i o' e => ?_⟩
  · rw [List.length_append, List.length_singleton] at hi hj
    by_cases h1 : i = G.length
    · by_cases h2 : j = G.length
      · rw [h1, h2]
      · have hj' : j < G.length := by omega
        rw [h1, into_eq, into_lt hj'] at e
        exact absurd e.symm (r j hj')
    · have hi' : i < G.length := by omega
      by_cases h2 : j = G.length
      · rw [h2, into_eq, into_lt hi'] at e
        exact absurd e (r i hi')
      · have hj' : j < G.length := by omega
        rw [into_lt hi', into_lt hj'] at e
        exact S.inj i j hi' hj' e
  · rw [List.length_append, List.length_singleton] at hi
    by_cases h1 : i = G.length
    · subst h1
      exact .inr into_eq
    · have hi' : i < G.length := by omega
      rw [into_lt hi']
      exact .inl (S.mu i hi')
  · rcases k with k | k
    · exact S.dom a k
    · rw [k]
      exact S.dom D m
  · rw [List.length_append, List.length_singleton]
    by_cases h1 : i < G.length
    · rw [List.getElem?_append_left h1] at e
      rw [into_lt h1]
      exact (S.obj i o' e).ext0 (own0 m) fun v hv => hv
    · have h2 : i = G.length := by
        have := (List.getElem?_eq_some_iff.mp e).1
        rw [List.length_append, List.length_singleton] at this
        omega
      subst h2
      rw [List.getElem?_append_right (Nat.le_refl _), Nat.sub_self] at e
      cases e
      rw [into_eq]
      exact ho.ext0 (own0 m) fun v hv => hv
end
section
variable {K : PySem.W.Frag} {E : XK} {p : Pt} {tt : TM} {te : EM} {own : List Nat} {z : Bool}
/-- what holds between turns: the object so far lies at D, held aside -/
structure Mid (K : PySem.W.Frag) (ι0 : Vw) (n0 : Nat) (H0 : Hp) (D : Addr) (o : Ob) (ι : Vw) (G : Store) (H : Hp) : Prop where
  x : Ext K ι0 n0 H0 ι G.length H
  S : Sim K ι G H
  at_ : ORep K ι G.length H o D
  m : ι.M D
  r : ∀ i, i < G.length → ι i ≠ D
theorem Mid.next {ι0 ι ι' : Vw} {n0 : Nat} {G G' : Store} {H0 H H' : Hp} {D : Addr} {o : Ob} (h : Mid K ι0 n0 H0 D o ι G H) (x : Ext K ι G.length H ι' G'.length H') (S : Sim K ι' G' H') : Mid K ι0 n0 H0 D o ι' G' H' := by
  obtain ⟨u, h1, _⟩ := h.at_.there
  obtain ⟨e1, e2, e3⟩ := x.res D _ h.m h.r h1
  exact ⟨h.x.trans x, S, h.at_.ext x fun w hw => (x.res D w h.m h.r hw).1, e2, e3⟩
theorem Mid.push {ι0 ι : Vw} {n0 : Nat} {G : Store} {H0 H : Hp} {D : Addr} {acc : List Val} {v : Val} {y : V} (hD : H0 D = none) (h : Mid K ι0 n0 H0 D (.lst acc) ι G H) (r : Rep K ι G.length H v y) :
    ∃ xs, H D = some (.lst xs) ∧ xs.length = acc.length ∧ Mid K ι0 n0 H0 D (.lst (acc ++ [v])) ι G (L2.upd H D (.lst (xs ++ [y]))) := by
  obtain ⟨xs, h1, h2⟩ := h.at_
  exact ⟨xs, h1, h2.length, h.x.updR hD h1 trivial h.m, h.S.updR h1 trivial h.m h.r, ⟨_, upd_same, (h2.append (Reps.one r)).ext0 (updR0 h1 trivial h.m)⟩, h.m, h.r⟩
/-- the object is told -/
theorem Mid.done {ι0 ι : Vw} {n0 : Nat} {G : Store} {H0 H : Hp} {D : Addr} {o : Ob} {Q : VK} (hD : H0 D = none) (h : Mid K ι0 n0 H0 D o ι G H)
    (q : Post K E ι0 n0 H0 (alloc o G) fun ι' G' H' v => ∀ x, Rep K ι' G'.length H' v x → Q x H') : Q (.ref D) H := by
  have hl : (G ++ [o]).length = G.length + 1 := by rw [List.length_append, List.length_singleton]
  refine q (into ι G.length D) H ?_ (h.S.own h.m h.r h.at_) (.ref D) ⟨by rw [hl]; exact Nat.lt_succ_self _, by rw [into_eq]⟩
  rw [hl]
  exact h.x.own hD h.m
theorem Mid.doneL {ι0 ι : Vw} {n0 : Nat} {G : Store} {H0 H : Hp} {D : Addr} {acc : List Val} {Q : VK} (hD : H0 D = none) (h : Mid K ι0 n0 H0 D (.lst acc) ι G H)
    (q : Post K E ι0 n0 H0 (froR z (.ok acc G)) fun ι' G' H' v => ∀ x, Rep K ι' G'.length H' v x → Q x H') : Q (.ref D) H := by
  cases z with
  | false => exact h.done hD q
  | true =>
    obtain ⟨xs, h1, h2⟩ := h.at_
    exact q (ι.sub D) H (h.x.sub hD) (h.S.sub h.r) (.ref D) ⟨D, xs, rfl, ⟨h1, fun m => m.2 rfl⟩, h2.ext0 (sub0 h.r)⟩
theorem Mid.new {ι : Vw} {G : Store} {H : Hp} {D : Addr} {o : Ob} {u : HO} (S : Sim K ι G H) (hD : H D = none) (ho : ORep K (ι.add D) G.length (L2.upd H D u) o D) : Mid K ι G.length H D o (ι.add D) G (L2.upd H D u) := ⟨Ext.add hD, S.add hD, ho, .inr rfl, S.rng hD⟩
/-- what is still to be told, behind what was told -/
def behind (acc : List Val) (r : Res (List Val)) : Res (List Val) := r.bind fun ws G => .ok (acc ++ ws) G
theorem behind_nil {r : Res (List Val)} : behind [] r = r := by cases r <;> rfl
theorem behind_cons {acc : List Val} {w : Val} {r : Res (List Val)} : behind acc (r.bind fun ws G => .ok (w :: ws) G) = behind (acc ++ [w]) r := by
  cases r with
  | ok ws G => simp [behind, Res.bind]
  | _ => rfl
theorem lcF_turn {ι0 ι : Vw} {n0 : Nat} {G : Store} {H0 H : Hp} {D : Addr} {acc : List Val} {ρ : Env1} {σ : L2.St} {v : Val} {x : V} {k : Store → Res (List Val)} {R : Vw → Store → Hp → Val → Prop} (hD : H0 D = none) (ho : ∀ i ∈ p.slots, i ∈ own) (M : Mid K ι0 n0 H0 D (.lst acc) ι G H) (rx : Rep K ι G.length H v x) (sl : Slots K ι G.length H (wipe1 ρ own) (L2.wipe σ own))
    (q : Post K E ι0 n0 H0 (froR z (behind acc (lcFT p tt te (wipe1 ρ own) v k G))) R) (hl : acc.length < sizeLine) {N : Hp → Prop}
    (hN : ∀ acc' ι' G' H', acc'.length ≤ acc.length + 1 → Mid K ι0 n0 H0 D (.lst acc') ι' G' H' → Post K E ι0 n0 H0 (froR z (behind acc' (k G'))) R → N H') :
    tG K p x (L2.wipe σ own) H fun σ2 H2 => L2.wipe σ2 own = L2.wipe σ own ∧ tT K E tt σ2 H2 fun b H3 => if b = true then tE K E te σ2 H3 fun y H4 => ∃ acc, H4 D = some (.lst acc) ∧ acc.length < sizeLine ∧ N (L2.upd H4 D (.lst (acc ++ [y]))) else N H3 := by
  unfold lcFT at q
  cases e : ptSet G p v (wipe1 ρ own) with
  | none => rw [e] at q; exact q.elim
  | some ρ2 =>
    rw [e] at q
    dsimp only at q
    refine ⟨ι, G, v, wipe1 ρ own, ρ2, M.S, rx, sl, e, fun σ' l' hl' hj => ⟨wipe_same ho hl' hj, ι, G, ρ2, M.S, l', ?_⟩⟩
    have bb : ∀ {α : Type} (r : Res α) (f : α → Store → Res (List Val)), froR z (behind acc (r.bind f)) = r.bind fun a G => froR z (behind acc (f a G)) := fun r f => by cases r <;> rfl
    rw [bb] at q
    refine (Post.bind0 M.x q).mono fun ι1 G1 H1 b x1 S1 ⟨_, q1⟩ => ?_
    have M1 := M.next x1 S1
    cases b with
    | false => exact hN acc ι1 G1 H1 (Nat.le_succ _) M1 q1
    | true =>
      rw [if_pos rfl] at q1
      rw [if_pos rfl, bb] at *
      refine run2 S1 (l'.ext x1) ((Post.bind0 M1.x q1).mono fun ι2 G2 H2 w x2 S2 ⟨_, q2⟩ y ry => ?_)
      have M2 := M1.next x2 S2
      rw [behind_cons] at q2
      obtain ⟨xs, h1, h2, M3⟩ := M2.push hD ry
      exact ⟨xs, h1, by rw [h2]; exact hl, hN (acc ++ [w]) ι2 G2 _ (by rw [List.length_append]; exact Nat.le_refl _) M3 q2⟩
theorem lcF_w {J : It} {l : List Val} {ι : Vw} {G : Store} {H : Hp} {ρ : Env1} {σ : L2.St} {Q : VK} (ho : ∀ i ∈ p.slots, i ∈ own) (hz : l.length ≤ sizeLine)
    (item : ∀ (j : Nat) (ι' : Vw) (n' : Nat) (H' : Hp) v, Ext K ι G.length H ι' n' H' → l[j]? = some v → J.go j H' ∧ ∀ x H2, J.yld j H' x H2 → H2 = H' ∧ Rep K ι' n' H' v x)
    (stop : ∀ (ι' : Vw) (n' : Nat) (H' : Hp), Ext K ι G.length H ι' n' H' → J.stop l.length H')
    (S : Sim K ι G H) (sl : Slots K ι G.length H ρ σ) (q : Post K E ι G.length H (froR z (lcF p tt te (wipe1 ρ own) l G)) fun ι' G' H' v => ∀ x, Rep K ι' G'.length H' v x → Q x H') :
    ∀ D, H D = none → ∃ W : Nat → Nat → Hp → Prop, (∃ m, W 0 m (L2.upd H D (.lst []))) ∧ ∀ i m H, W i m H →
      (J.stop i H ∧ Q (.ref D) H) ∨ (J.go i H ∧ ∃ Nx : Hp → Prop, (∀ H', Nx H' → ∃ m', m' < m ∧ W (i + 1) m' H') ∧ ∀ x H', J.yld i H x H' → tG K p x (L2.wipe σ own) H' fun σ2 H2 => L2.wipe σ2 own = L2.wipe σ own ∧ tT K E tt σ2 H2 fun b H3 =>
        if b = true then tE K E te σ2 H3 fun y H4 => ∃ acc, H4 D = some (.lst acc) ∧ acc.length < sizeLine ∧ Nx (L2.upd H4 D (.lst (acc ++ [y]))) else Nx H3) := fun D hD => by
  rw [← behind_nil (r := lcF p tt te (wipe1 ρ own) l G)] at q
  refine ⟨fun i m H' => ∃ acc ι' G', Mid K ι G.length H D (.lst acc) ι' G' H' ∧ acc.length ≤ i ∧ i + m = l.length ∧
    Post K E ι G.length H (froR z (behind acc (lcF p tt te (wipe1 ρ own) (l.drop i) G'))) (fun ι' G' H' v => ∀ x, Rep K ι' G'.length H' v x → Q x H'), ⟨l.length, [], ι.add D, G, Mid.new S hD ⟨[], upd_same, rfl⟩, Nat.le_refl _, Nat.zero_add _, q⟩, ?_⟩
  rintro i m H' ⟨acc, ι', G', M, ha, hm, q'⟩
  cases m with
  | zero =>
    have hi : i = l.length := by omega
    subst hi
    rw [List.drop_length] at q'
    refine .inl ⟨stop ι' G'.length H' M.x, M.doneL hD (E := E) (z := z) ?_⟩
    have e : behind acc (lcF p tt te (wipe1 ρ own) [] G') = .ok acc G' := by
      show Res.ok (acc ++ []) G' = _
      rw [List.append_nil]
    rw [e] at q'
    exact q'
  | succ m =>
    have hi : i < l.length := by omega
    obtain ⟨v, hv⟩ : ∃ v, l[i]? = some v := ⟨l[i], List.getElem?_eq_getElem hi⟩
    obtain ⟨go, yld⟩ := item i ι' G'.length H' v M.x hv
    have ed : l.drop i = v :: l.drop (i + 1) := by
      rw [List.drop_eq_getElem_cons hi]
      rw [List.getElem?_eq_getElem hi] at hv
      rw [Option.some.inj hv]
    rw [ed] at q'
    refine .inr ⟨go, fun H2 => ∃ acc ι2 G2, Mid K ι G.length H D (.lst acc) ι2 G2 H2 ∧ acc.length ≤ i + 1 ∧ (i + 1) + m = l.length ∧
      Post K E ι G.length H (froR z (behind acc (lcF p tt te (wipe1 ρ own) (l.drop (i + 1)) G2))) (fun ι' G' H' v => ∀ x, Rep K ι' G'.length H' v x → Q x H'), fun H2 h => ⟨m, Nat.lt_succ_self _, h⟩, fun x H2 hy => ?_⟩
    obtain ⟨rfl, rx⟩ := yld x H2 hy
    exact lcF_turn (k := lcF p tt te (wipe1 ρ own) (l.drop (i + 1))) hD ho M rx ((sl.wipe own).ext M.x) q' (by omega) fun acc' ι2 G2 H2 h1 M2 q2 => ⟨acc', ι2, G2, M2, by omega, by omega, q2⟩
theorem lcFob_w {l : List Val} {i : Nat} {ι : Vw} {G : Store} {H : Hp} {ρ : Env1} {σ : L2.St} {Q : VK} (ho : ∀ i ∈ p.slots, i ∈ own) (hz : l.length ≤ sizeLine) (hi : i < G.length)
    (S : Sim K ι G H) (sl : Slots K ι G.length H ρ σ) (q : Post K E ι G.length H (froR z (lcFob p tt te (wipe1 ρ own) i l 0 G)) fun ι' G' H' v => ∀ x, Rep K ι' G'.length H' v x → Q x H') :
    ∀ D, H D = none → ∃ W : Nat → Nat → Hp → Prop, (∃ m, W 0 m (L2.upd H D (.lst []))) ∧ ∀ j m H, W j m H →
      ((Itl K (ι i)).stop j H ∧ Q (.ref D) H) ∨ ((Itl K (ι i)).go j H ∧ ∃ Nx : Hp → Prop, (∀ H', Nx H' → ∃ m', m' < m ∧ W (j + 1) m' H') ∧ ∀ x H', (Itl K (ι i)).yld j H x H' → tG K p x (L2.wipe σ own) H' fun σ2 H2 => L2.wipe σ2 own = L2.wipe σ own ∧ tT K E tt σ2 H2 fun b H3 =>
        if b = true then tE K E te σ2 H3 fun y H4 => ∃ acc, H4 D = some (.lst acc) ∧ acc.length < sizeLine ∧ Nx (L2.upd H4 D (.lst (acc ++ [y]))) else Nx H3) := fun D hD => by
  rw [← behind_nil (r := lcFob p tt te (wipe1 ρ own) i l 0 G)] at q
  refine ⟨fun j m H' => ∃ acc ι' G' r, Mid K ι G.length H D (.lst acc) ι' G' H' ∧ acc.length ≤ j ∧ r.length = m ∧ j + m = l.length ∧
    Post K E ι G.length H (froR z (behind acc (lcFob p tt te (wipe1 ρ own) i r j G'))) (fun ι' G' H' v => ∀ x, Rep K ι' G'.length H' v x → Q x H'), ⟨l.length, [], ι.add D, G, l, Mid.new S hD ⟨[], upd_same, rfl⟩, Nat.le_refl _, rfl, Nat.zero_add _, q⟩, ?_⟩
  rintro j m H' ⟨acc, ι', G', r, M, ha, hr, hm, q'⟩
  have ea : ι' i = ι i := M.x.same i hi
  cases r with
  | nil =>
    unfold lcFob at q'
    cases e : G'[i]? with
    | none => rw [e] at q'; exact q'.elim
    | some o =>
      rw [e] at q'
      cases o with
      | lst l' =>
        dsimp only at q'
        by_cases hl : l'.length ≤ j
        · rw [if_pos hl] at q'
          obtain ⟨xs, h1, h2⟩ := M.S.lst e
          rw [ea] at h1
          refine .inl ⟨⟨xs, .of h1, by rw [h2.length]; exact hl⟩, M.doneL hD (E := E) (z := z) ?_⟩
          have e : behind acc (.ok [] G') = .ok acc G' := by
            show Res.ok (acc ++ []) G' = _
            rw [List.append_nil]
          rw [e] at q'
          exact q'
        · rw [if_neg hl] at q'
          exact q'.elim
      | _ => exact q'.elim
  | cons w r =>
    unfold lcFob at q'
    cases e : G'[i]? with
    | none => rw [e] at q'; exact q'.elim
    | some o =>
      rw [e] at q'
      cases o with
      | lst l' =>
        dsimp only at q'
        cases e2 : l'[j]? with
        | none => rw [e2] at q'; exact q'.elim
        | some v =>
          rw [e2] at q'
          dsimp only at q'
          obtain ⟨xs, h1, h2⟩ := M.S.lst e
          rw [ea] at h1
          obtain ⟨y, hy, ry⟩ := h2.get e2
          have hm' : r.length + 1 = m := hr
          refine .inr ⟨⟨xs, y, .of h1, hy⟩, fun H2 => ∃ acc ι2 G2, Mid K ι G.length H D (.lst acc) ι2 G2 H2 ∧ acc.length ≤ j + 1 ∧
            Post K E ι G.length H (froR z (behind acc (lcFob p tt te (wipe1 ρ own) i r (j + 1) G2))) (fun ι' G' H' v => ∀ x, Rep K ι' G'.length H' v x → Q x H'), fun H2 ⟨acc, ι2, G2, a1, a2, a3⟩ => ⟨r.length, by omega, acc, ι2, G2, r, a1, a2, rfl, by omega, a3⟩, fun x H2 ⟨eh, ky⟩ => ?_⟩
          subst eh
          have ex := ky xs (.of h1)
          rw [hy] at ex
          cases ex
          exact lcF_turn (k := lcFob p tt te (wipe1 ρ own) i r (j + 1)) hD ho M ry ((sl.wipe own).ext M.x) q' (by omega) fun acc' ι2 G2 H2 h1 M2 q2 => ⟨acc', ι2, G2, M2, by omega, q2⟩
      | _ => exact q'.elim
end
end R1
/-! R1g: op=, places given values, methods of lists and dicts, isinstance, constants of the module. -/
namespace R1
open PySem PySem.Spec PyProof.Rows L2
/-! ### name += e, o.f += e, xs[i] += e (ints) -/
def addI (v w : Val) : Option Val := match v, w with
  | .int i, .int j => some (.int (i + j))
  | _, _ => none
def sAug (i : Nat) (m : EM) : SM := fun ρ G => match ρ[i]? with
  | some (some v) => (m ρ G).toS fun w G1 => (match addI v w with
    | some z => .next (ρ.set i (some z)) G1
    | none => .bad)
  | _ => .bad
/-- o.f += e, o an instance of the class c -/
def sFldAug1 (c p : Nat) (o m : EM) : SM := fun ρ G => (o ρ G).toS fun w G1 => match w with
  | .obj i => (match G1[i]? with
    | some (.ins c' vs) => if c' = c then (match vs[p]? with
      | some v => (m ρ G1).toS fun u G2 => (match addI v u with
        | some z => (match setFld c p w z G2 with
          | some G3 => .next ρ G3
          | none => .bad)
        | none => .bad)
      | none => .bad) else .bad
    | _ => .bad)
  | _ => .bad
theorem addI_inv {v w z : Val} (h : addI v w = some z) : ∃ i j, v = .int i ∧ w = .int j ∧ z = .int (i + j) := by
  unfold addI at h
  cases v with
  | int i =>
    cases w with
    | int j => exact ⟨i, j, rfl, rfl, (Option.some.inj h).symm⟩
    | _ => cases h
  | _ => cases h
section
variable {X : Cx} {E : XK} {e o : Expr} {me mo : EM} {pos pos' tpos : Pos}
theorem rs_fldaug {c p : Nat} {f : Str} (hf : (cfields c)[p]? = some f) (ho : RE X E o mo) (he : RE X E e me) : RS X E (.AugAssign (.Attribute o f tpos) .Add e pos) (sFldAug1 c p mo me) := by
  refine ps_weak (ps_fldaug ho he in_add) fun D σ H ⟨ι, G, ρ, S, sl, q⟩ => run1 S sl (q.ofRes.mono fun ι1 G1 H1 w x1 S1 q1 x rx => ?_)
  cases w with
  | obj i =>
    cases e1 : G1[i]? with
    | none => simp only [e1] at q1; exact q1.elim
    | some ob =>
      simp only [e1] at q1
      cases ob with
      | ins c' vs =>
        dsimp only at q1
        by_cases hc : c' = c
        · subst hc
          rw [if_pos rfl] at q1
          cases e2 : vs[p]? with
          | none => rw [e2] at q1; exact q1.elim
          | some v =>
            rw [e2] at q1
            dsimp only at q1
            obtain ⟨ck, dx, gs, g1, g2⟩ := S1.ins e1
            obtain ⟨y, ey, ry⟩ := g2.look (fields_ok c').1 hf e2
            refine ⟨ι1 i, _, dx, gs, y, rx.2, g1, ck.cls, ck.fld f (List.mem_of_getElem? hf), ey, run1 S1 (sl.ext x1) (q1.ofRes.mono fun ι2 G2 H2 u x2 S2 q4 z rz => ?_)⟩
            cases e3 : addI v u with
            | none => rw [e3] at q4; exact q4.elim
            | some z' =>
              rw [e3] at q4
              obtain ⟨a, b, rfl, rfl, rfl⟩ := addI_inv e3
              dsimp only at q4
              cases e4 : setFld c' p (.obj i) (.int (a + b)) G2 with
              | none => rw [e4] at q4; exact q4.elim
              | some G3 =>
                rw [e4] at q4
                obtain ⟨a', dx', gs', h1, h2, _, hl, s3, e3'⟩ := setFld_ok (v := .int (a + b)) (y := .int (a + b)) S2 (rx.ext x2) (show Rep X.K ι2 G2.length H2 (.int (a + b)) (.int (a + b)) from rfl) hf e4
                have ea : a' = ι1 i := by
                  have h5 := h1.symm.trans rx.2
                  injection h5
                subst ea
                exact ⟨a, b, ry, rz, dx', gs', h2, hl, q4 ι2 _ σ e3' s3 (sl.ext ((x1.trans x2).trans e3'))⟩
        · rw [if_neg hc] at q1
          exact q1.elim
      | _ => exact q1.elim
  | _ => exact q1.elim
end
/-! ### methods of lists -/
def setLst (v : Val) (f : List Val → Option (List Val)) (G : Store) : Option Store := match v with
  | .obj i => (match G[i]? with
    | some (.lst l) => (f l).map fun l' => G.set i (.lst l')
    | _ => none)
  | _ => none
theorem setLst_ok {K : PySem.W.Frag} {ι : Vw} {G G' : Store} {H : Hp} {v : Val} {x : V} {f : List Val → Option (List Val)} (S : Sim K ι G H) (rx : Rep K ι G.length H v x) (h : setLst v f G = some G') :
    ∃ i l l' xs, v = .obj i ∧ G[i]? = some (.lst l) ∧ f l = some l' ∧ x = .ref (ι i) ∧ H (ι i) = some (.lst xs) ∧ Reps K ι G.length H l xs ∧
      ∀ xs', Reps K ι G.length H l' xs' → Sim K ι G' (L2.upd H (ι i) (.lst xs')) ∧ Ext K ι G.length H ι G'.length (L2.upd H (ι i) (.lst xs')) := by
  unfold setLst at h
  cases v with
  | obj i =>
    dsimp only at h
    cases e : G[i]? with
    | none => rw [e] at h; cases h
    | some o =>
      rw [e] at h
      cases o with
      | lst l =>
        dsimp only at h
        cases e2 : f l with
        | none => rw [e2] at h; cases h
        | some l' =>
          rw [e2] at h
          cases h
          obtain ⟨xs, h1, h2⟩ := S.lst e
          refine ⟨i, l, l', xs, rfl, e, e2, rx.2, h1, h2, fun xs' r' => ?_⟩
          exact S.set (u := .lst xs') (o := .lst l') e rfl ⟨xs', upd_same, r'.ext (Ext.updE (S.fr e h1 trivial))⟩
      | _ => cases h
  | _ => cases h
/-- xs.append(e) -/
def eApp (o m : EM) : EM := fun ρ G => (o ρ G).bind fun v G1 => match v with
  | .obj i => (match G1[i]? with
    | some (.lst _) => (m ρ G1).bind fun w G2 => (match setLst v (fun l => if l.length < sizeLine then some (l ++ [w]) else none) G2 with
      | some G3 => .ok .non G3
      | none => .bad)
    | _ => .bad)
  | _ => .bad
/-- xs.pop() -/
def ePop (o : EM) : EM := fun ρ G => (o ρ G).bind fun v G1 => match v with
  | .obj i => (match G1[i]? with
    | some (.lst l) => (match l[l.length - 1]? with
      | some w => .ok w (G1.set i (.lst l.dropLast))
      | none => .bad)
    | _ => .bad)
  | _ => .bad
section
variable {X : Cx} {E : XK} {e o : Expr} {me mo : EM} {apos cpos : Pos}
theorem re_app (ho : RE X E o mo) (he : RE X E e me) (h1 : attributeBase o "append" X.env (eval o X.env) = eval o X.env := by rfl)
    (h2 : (((((backTo cpos (starEach [e] X.env)).all fun x => !x.fst) && (backToKw cpos (keywordEach [] X.env)).all fun x => x.fst.isSome) && decide (([e].length + ([] : List Keyword).length + if ([] : List Keyword).isEmpty = true then 0 else 1) < 30)) = true) := by rfl)
    (h3 : (apos.endLine == cpos.line) = true := by rfl) (h4 : starEach [e] X.env = (false, eval e X.env) :: starEach [] X.env := by rfl) (h5 : ((backTo cpos (starEach [] X.env)).any fun x => x.fst) = false := by rfl) :
    RE X E (.Call (.Attribute o "append" apos) [e] [] cpos) (eApp mo me) := by
  refine pe_weak (pe_bm (name := "append") PySem.F.plainAttrs_list PySem.F.slot_list_append PySem.F.type_list_append mt_append ho (pa_cons he pa_nil h4) h1 h2 h3 h4 h5) fun σ H Q ⟨ι, G, ρ, S, sl, q⟩ => run1 S sl ((Post.bind q).mono fun ι1 G1 H1 v x1 S1 q1 x rx => ?_)
  cases v with
  | obj i =>
    cases e1 : G1[i]? with
    | none => simp only [e1] at q1; exact q1.elim
    | some ob =>
      simp only [e1] at q1
      cases ob with
      | lst l =>
        obtain ⟨xs, g1, g2⟩ := S1.lst e1
        obtain ⟨hlt, rfl⟩ := rx
        have rx : Rep X.K ι1 G1.length H1 (.obj i) (.ref (ι1 i)) := ⟨hlt, rfl⟩
        dsimp only at q1
        refine ⟨.inl ⟨rfl, _, .of g1⟩, run1 S1 (sl.ext x1) ((Post.bind q1).mono fun ι2 G2 H2 w x2 S2 q2 y ry => ?_)⟩
        cases e3 : setLst (.obj i) (fun l => if l.length < sizeLine then some (l ++ [w]) else none) G2 with
        | none => rw [e3] at q2; exact q2.elim
        | some G3 =>
          rw [e3] at q2
          obtain ⟨j, l2, l3, ys, ev, e4, e5, ex, g3, g4, g5⟩ := setLst_ok S2 (rx.ext x2) e3
          by_cases hl : l2.length < sizeLine
          · rw [if_pos hl] at e5
            cases e5
            obtain ⟨s3, x3⟩ := g5 (ys ++ [y]) (g4.append (Reps.one ry))
            exact ⟨ι2 j, ys, y, ex, rfl, g3, by rw [g4.length]; exact hl, q2 ι2 _ x3 s3 _ rfl⟩
          · rw [if_neg hl] at e5
            cases e5
      | _ => exact q1.elim
  | _ => exact q1.elim
theorem re_pop (ho : RE X E o mo) (h1 : attributeBase o "pop" X.env (eval o X.env) = eval o X.env := by rfl) (h3 : (apos.endLine == cpos.line) = true := by rfl) :
    RE X E (.Call (.Attribute o "pop" apos) [] [] cpos) (ePop mo) := by
  refine pe_weak (pe_bm0 (name := "pop") PySem.F.plainAttrs_list PySem.F.slot_list_pop PySem.F.type_list_pop mt_pop ho h1 h3) fun σ H Q ⟨ι, G, ρ, S, sl, q⟩ => run1 S sl ((Post.bind q).mono fun ι1 G1 H1 v x1 S1 q1 x rx => ?_)
  cases v with
  | obj i =>
    cases e1 : G1[i]? with
    | none => simp only [e1] at q1; exact q1.elim
    | some ob =>
      simp only [e1] at q1
      cases ob with
      | lst l =>
        obtain ⟨xs, g1, g2⟩ := S1.lst e1
        dsimp only at q1
        cases e2 : l[l.length - 1]? with
        | none => rw [e2] at q1; exact q1.elim
        | some w =>
          rw [e2] at q1
          obtain ⟨y, ey, ry⟩ := g2.get e2
          obtain ⟨s3, x3⟩ := S1.set (u := .lst xs.dropLast) (o := .lst l.dropLast) e1 rfl ⟨_, upd_same, g2.dropLast.ext (Ext.updE (S1.fr e1 g1 trivial))⟩
          rw [← g2.length] at ey
          obtain ⟨hlt, rfl⟩ := rx
          exact ⟨.inl ⟨rfl, _, .of g1⟩, ι1 i, xs, y, rfl, rfl, g1, ey, q1 ι1 _ x3 s3 y (ry.ext x3)⟩
      | _ => exact q1.elim
  | _ => exact q1.elim
end
/-! ### isinstance with a built-in class -/
def tyN (G : Store) : Val → Option String
  | .non => some "NoneType"
  | .bl _ => some "bool"
  | .int _ => some "int"
  | .str _ => some "str"
  | .tup _ => some "tuple"
  | .fro _ => some "list"
  | .scr _ => none
  | .frd _ => none
  | .obj i => match G[i]? with
    | some (.lst _) => some "list"
    | some (.dic _) => some "dict"
    | _ => none
/-- T one of the names int, bool, str, tuple, list -/
def isTy (T n : String) : Bool := n == T || (n == "bool" && T == "int")
def eIsi (T : String) (m : EM) : EM := fun ρ G => (m ρ G).bind fun v G1 => match tyN G1 v with
  | some n => .ok (.bl (isTy T n)) G1
  | none => .bad
def tyNames : List String := ["int", "bool", "str", "tuple", "list"]
theorem kit_all : ∀ T ∈ tyNames, ∀ n ∈ ["NoneType", "bool", "int", "str", "tuple", "list", "dict"], kitB n T = some (isTy T n) := by decide +kernel
theorem tyN_mem {G : Store} {v : Val} {n : String} (h : tyN G v = some n) : n ∈ ["NoneType", "bool", "int", "str", "tuple", "list", "dict"] := by
  unfold tyN at h
  cases v with
  | obj i =>
    dsimp only at h
    cases e : G[i]? with
    | none => rw [e] at h; cases h
    | some o => rw [e] at h; cases o <;> (cases h <;> simp)
  | scr l => cases h
  | frd l => cases h
  | _ => cases h; simp
theorem ty_at {K : PySem.W.Frag} {ι : Vw} {G : Store} {H : Hp} {v : Val} {x : V} {n : String} (S : Sim K ι G H) (r : Rep K ι G.length H v x) (h : tyN G v = some n) : TyX K H x (.type n) := by
  cases v with
  | non => cases h; rw [show x = .non from r]; exact .base .non
  | bl b => cases h; rw [show x = .bl b from r]; exact .base (.bl b)
  | int i => cases h; rw [show x = .int i from r]; exact .base (.int i)
  | str k => cases h; rw [show x = .str (nm k) from r]; exact .base (.str _)
  | tup l =>
    cases h
    obtain ⟨a, xs, e, h1, h2⟩ := r
    rw [e]
    rcases h1 with (h1 | ⟨o, h1⟩) | ⟨o, its, n, h1, h3, _⟩
    · exact .base (.tup h1)
    · exact .fTuple h1
    · exact .kTuple h1 h3
  | fro l =>
    cases h
    obtain ⟨a, xs, e, h1, h2⟩ := r
    rw [e]
    exact .base (.lst h1.1)
  | scr l => cases h
  | frd l => cases h
  | obj i =>
    unfold tyN at h
    dsimp only at h
    rw [r.2]
    cases e : G[i]? with
    | none => rw [e] at h; cases h
    | some o =>
      rw [e] at h
      cases o with
      | lst l =>
        cases h
        obtain ⟨xs, h1, _⟩ := S.lst e
        exact .base (.lst h1)
      | dic l =>
        cases h
        obtain ⟨xs, h1, _⟩ := S.dic e
        exact .base (.dK h1)
      | _ => cases h
section
variable {X : Cx} {E : XK} {e : Expr} {me : EM} {p p2 pos : Pos}
theorem re_isi {T : String} {x : Str} (hT : T ∈ tyNames) (hgi : Gl X "isinstance") (hmi : X.mg "isinstance" = none) (hty : PE X (.Name x p2) (fun σ H Q => Q (.ty T) H)) (he : RE X E e me)
    (h1 : starEach [e, .Name x p2] X.env = (false, eval e X.env) :: starEach [.Name x p2] X.env := by rfl) (h2 : starEach [.Name x p2] X.env = (false, eval (.Name x p2) X.env) :: starEach [] X.env := by rfl) (hpl : (backTo pos (starEach [.Name x p2] X.env)).any (·.1) = false := by rfl) :
    RE X E (.Call (.Name "isinstance" p) [e, .Name x p2] [] pos) (eIsi T me) := by
  refine pe_weak (pe_callB call_isi hgi hmi (by decide +kernel) (pa_cons he (pa_cons hty pa_nil h2) h1) (by decide) (by decide) h1 hpl) fun σ H Q ⟨ι, G, ρ, S, sl, q⟩ => run1 S sl ((Post.bind q).mono fun ι1 G1 H1 v x1 S1 q1 x rx => ?_)
  cases e1 : tyN G1 v with
  | none => rw [e1] at q1; exact q1.elim
  | some n =>
    rw [e1] at q1
    exact ⟨x, .ty T, .type n, .type T, isTy T n, rfl, .ty T, ty_at S1 rx e1, kit_ty (kit_all T hT n (tyN_mem e1)), q1.here S1 _ rfl⟩
end
/-! ### constants of the module -/
section
variable {X : Cx} {E : XK} {x : Str} {p : Pos}
/-- a whole number that the module holds -/
theorem re_gint {i : Int} (hp : PE X (.Name x p) (fun σ H Q => Q (.int i) H)) : RE X E (.Name x p) (eC (.int i)) :=
  pe_weak hp fun σ H Q ⟨ι, G, ρ, S, sl, q⟩ => q.here S _ rfl
end
/-! ### in, not in; sorted, all, any -/
section
variable {X : Cx} {E : XK} {a b : Expr} {ma mb : EM} {pos : Pos}
theorem rt_in (hu : X.A.units + 64 < cLine) (ha : RE X E a ma) (hb : RE X E b mb) (hm : behindInMarks .In b = false := by rfl) : RT X E (.Compare a [.In] [b] pos) (eTest (eOp (fIn false) ma mb)) := rt_cmp (op_inP hu) s_in ha hb hm
theorem rt_notin (hu : X.A.units + 64 < cLine) (ha : RE X E a ma) (hb : RE X E b mb) (hm : behindInMarks .NotIn b = false := by rfl) : RT X E (.Compare a [.NotIn] [b] pos) (eTest (eOp (fIn true) ma mb)) := rt_cmp (op_notInP hu) s_in ha hb hm
end
/-- a list's items -/
abbrev itemsL := lstOf
theorem itemsL_at {K : PySem.W.Frag} {ι : Vw} {G : Store} {H : Hp} {u : Val} {y : V} {l : List Val} (S : Sim K ι G H) (r : Rep K ι G.length H u y) (h : itemsL G u = some l) : ∃ a ys, y = .ref a ∧ SqL K H a ys ∧ Reps K ι G.length H l ys := by
  obtain ⟨a, xs, e, h1, h2⟩ := lstOf_at S r h
  exact ⟨a, xs, e, .of h1, h2⟩
/-- one argument, a list -/
theorem one_lst {K : PySem.W.Frag} {E : XK} {ι : Vw} {G : Store} {H : Hp} {vs : List Val} {xs : List V} {β : Type} {g : List Val → Option β} {k : β → Store → Res Val} {f : F1} {Q : VK} (hf : ∀ vs G, f vs G = match vs with | [v] => (match (itemsL G v).bind g with | some l => k l G | none => .bad) | _ => .bad) (S : Sim K ι G H) (rs : Reps K ι G.length H vs xs)
    (p : Post K E ι G.length H (f vs G) (fun ι' G' H' w => ∀ z, Rep K ι' G'.length H' w z → Q z H')) : ∃ a ys l b, xs = [.ref a] ∧ SqL K H a ys ∧ Reps K ι G.length H l ys ∧ g l = some b ∧ Post K E ι G.length H (k b G) (fun ι' G' H' w => ∀ z, Rep K ι' G'.length H' w z → Q z H') := by
  rw [hf] at p
  cases vs with
  | nil => exact p.elim
  | cons v l =>
    cases l with
    | cons _ _ => exact p.elim
    | nil =>
      dsimp only at p
      cases e : itemsL G v with
      | none => rw [e] at p; exact p.elim
      | some l =>
        rw [e] at p
        dsimp only [Option.bind] at p
        cases e2 : g l with
        | none => rw [e2] at p; exact p.elim
        | some b =>
          rw [e2] at p
          obtain ⟨x, rfl, rx⟩ := reps1 rs
          obtain ⟨a, ys, ex, h1, h2⟩ := itemsL_at S rx e
          exact ⟨a, ys, l, b, by rw [ex], h1, h2, e2, p⟩
def bSortL : F1 := fun vs G => match vs with
  | [v] => (match (itemsL G v).bind asInts with
    | some l => .ok (.fro ((sortI l).map .int)) G
    | none => .bad)
  | _ => .bad
section
variable {K : PySem.W.Frag} {E : XK}
theorem s_sortL : CallS K E (rSortedI K) bSortL := fun ι G H vs xs Q S rs p => by
  obtain ⟨a, ys, l, ns, e, h1, h2, h3, p2⟩ := one_lst (g := asInts) (k := fun l G => .ok (.fro ((sortI l).map .int)) G) (f := bSortL) (fun vs G => by
    unfold bSortL
    rcases vs with _ | ⟨v, _ | ⟨w, l⟩⟩
    · rfl
    · dsimp only
      cases (itemsL G v).bind asInts <;> rfl
    · rfl) S rs p
  have ey := reps_ints h3 h2
  subst ey
  refine ⟨a, ns, e, h1, fun ns' q hp hs hq => ?_⟩
  rw [sortI_uniq hp hs]
  exact post_fro S (ints_reps _) p2 q hq
end
end R1
/-! R1t: a def that leaves the store as it was: what it made is dropped, the list that it tells is never changed. -/
namespace R1
open PySem PySem.Spec PyProof.Rows L2
mutual
/-- a value that speaks of the first n objects alone -/
def clo (n : Nat) : Val → Bool
  | .non => true
  | .bl _ => true
  | .int _ => true
  | .str _ => true
  | .tup l => cloL n l
  | .fro l => cloL n l
  | .scr l => cloL n l
  | .frd l => cloD n l
  | .obj i => decide (i < n)
def cloL (n : Nat) : List Val → Bool
  | [] => true
  | v :: l => clo n v && cloL n l
def cloD (n : Nat) : List (Ky × Val) → Bool
  | [] => true
  | (_, v) :: l => clo n v && cloD n l
end
/-- what is told: new lists and dicts are never changed from now on -/
def frz1 (n : Nat) (G : Store) (v : Val) : Option Val := match v with
  | .obj i => if i < n then some v else (match G[i]? with
    | some (.lst l) => if cloL n l = true then some (.fro l) else none
    | some (.dic l) => if cloD n l = true then some (.frd l) else none
    | _ => none)
  | _ => if clo n v = true then some v else none
def frzV (n : Nat) (G : Store) (v : Val) : Option Val := match v with
  | .tup l => if cloL n l = true then some v else (optAll (frz1 n G) l).map .tup
  | _ => frz1 n G v
open Classical in
noncomputable def trunc (G : Store) (r : Res Val) : Res Val := match r with
  | .ok v G' => if G'.take G.length = G then (match frzV G.length G' v with
    | some w => .ok w G
    | none => .ok v G') else .ok v G'
  | r => r
section
variable {K : PySem.W.Frag} {ι ι' : Vw} {n n' : Nat} {G G' : Store} {H : Hp}
mutual
theorem Rep.clo : ∀ {v : Val} {x : V}, Rep K ι n H v x → clo n v = true
  | .non, _, _ => rfl
  | .bl _, _, _ => rfl
  | .int _, _, _ => rfl
  | .str _, _, _ => rfl
  | .tup l, _, ⟨_, _, _, _, h⟩ => Reps.clo h
  | .fro l, _, ⟨_, _, _, _, h⟩ => Reps.clo h
  | .scr l, _, ⟨_, _, _, _, h⟩ => Reps.clo h
  | .frd l, _, ⟨_, _, _, _, h⟩ => KReps.clo h
  | .obj i, _, ⟨h, _⟩ => decide_eq_true h
theorem Reps.clo : ∀ {l : List Val} {xs : List V}, Reps K ι n H l xs → cloL n l = true
  | [], _, _ => rfl
  | _ :: _, _, ⟨_, _, _, h1, h2⟩ => Bool.and_eq_true_iff.mpr ⟨Rep.clo h1, Reps.clo h2⟩
theorem KReps.clo : ∀ {l : List (Ky × Val)} {xs : List (Key × V)}, KReps K ι n H l xs → cloD n l = true
  | [], _, _ => rfl
  | (_, _) :: _, _, ⟨_, _, _, h1, h2⟩ => Bool.and_eq_true_iff.mpr ⟨Rep.clo h1, KReps.clo h2⟩
end
mutual
theorem Rep.cut (hf : ∀ i, i < n → ι' i = ι i) (hm : ∀ a, ¬ ι.M a → ¬ ι'.M a) : ∀ {v : Val} {x : V}, R1.clo n v = true → Rep K ι n' H v x → Rep K ι' n H v x
  | .non, _, _, h => h
  | .bl _, _, _, h => h
  | .int _, _, _, h => h
  | .str _, _, _, h => h
  | .tup l, _, c, ⟨a, xs, h1, h2, h3⟩ => ⟨a, xs, h1, h2, Reps.cut0 hf hm c h3⟩
  | .fro l, _, c, ⟨a, xs, h1, h2, h3⟩ => ⟨a, xs, h1, ⟨h2.1, hm a h2.2⟩, Reps.cut0 hf hm c h3⟩
  | .scr l, _, c, ⟨a, xs, h1, h2, h3⟩ => ⟨a, xs, h1, h2, Reps.cut0 hf hm c h3⟩
  | .frd l, _, c, ⟨a, xs, h1, h2, h3⟩ => ⟨a, xs, h1, ⟨h2.1, hm a h2.2⟩, KReps.cut0 hf hm c h3⟩
  | .obj i, _, c, ⟨_, h⟩ => ⟨of_decide_eq_true c, by rw [hf i (of_decide_eq_true c)]; exact h⟩
theorem Reps.cut0 (hf : ∀ i, i < n → ι' i = ι i) (hm : ∀ a, ¬ ι.M a → ¬ ι'.M a) : ∀ {l : List Val} {xs : List V}, R1.cloL n l = true → Reps K ι n' H l xs → Reps K ι' n H l xs
  | [], _, _, h => h
  | _ :: _, _, c, ⟨y, ys, e, h1, h2⟩ => ⟨y, ys, e, Rep.cut hf hm (Bool.and_eq_true_iff.mp c).1 h1, Reps.cut0 hf hm (Bool.and_eq_true_iff.mp c).2 h2⟩
theorem KReps.cut0 (hf : ∀ i, i < n → ι' i = ι i) (hm : ∀ a, ¬ ι.M a → ¬ ι'.M a) : ∀ {l : List (Ky × Val)} {xs : List (Key × V)}, R1.cloD n l = true → KReps K ι n' H l xs → KReps K ι' n H l xs
  | [], _, _, h => h
  | (_, _) :: _, _, c, ⟨y, ys, e, h1, h2⟩ => ⟨y, ys, e, Rep.cut hf hm (Bool.and_eq_true_iff.mp c).1 h1, KReps.cut0 hf hm (Bool.and_eq_true_iff.mp c).2 h2⟩
end
theorem FReps.cut0 (hf : ∀ i, i < n → ι' i = ι i) (hm : ∀ a, ¬ ι.M a → ¬ ι'.M a) : ∀ {fs : List Str} {l : List Val} {xs : List (Str × V)}, R1.cloL n l = true → FReps K ι n' H fs l xs → FReps K ι' n H fs l xs
  | [], [], _, _, h => h
  | _ :: _, [], _, _, h => h
  | [], _ :: _, _, _, h => h.elim
  | _ :: _, _ :: _, _, c, ⟨y, ys, e, h1, h2⟩ => ⟨y, ys, e, h1.cut hf hm (Bool.and_eq_true_iff.mp c).1, FReps.cut0 hf hm (Bool.and_eq_true_iff.mp c).2 h2⟩
theorem FReps.clo : ∀ {fs : List Str} {l : List Val} {xs : List (Str × V)}, FReps K ι n H fs l xs → R1.cloL n l = true
  | [], [], _, _ => rfl
  | _ :: _, [], _, _ => rfl
  | [], _ :: _, _, h => h.elim
  | _ :: _, _ :: _, _, ⟨_, _, _, h1, h2⟩ => Bool.and_eq_true_iff.mpr ⟨h1.clo, FReps.clo h2⟩
theorem ORep.cut {o : Ob} {a : Addr} (hf : ∀ i, i < n → ι' i = ι i) (hm : ∀ a, ¬ ι.M a → ¬ ι'.M a) {ι0 : Vw} {H0 : Hp} {a0 : Addr} (h0 : ORep K ι0 n H0 o a0) (h : ORep K ι n' H o a) : ORep K ι' n H o a := by
  cases o with
  | lst l =>
    obtain ⟨_, _, c⟩ := h0
    obtain ⟨xs, h1, h2⟩ := h
    exact ⟨xs, h1, h2.cut0 hf hm c.clo⟩
  | dic l =>
    obtain ⟨_, _, c⟩ := h0
    obtain ⟨xs, h1, h2⟩ := h
    exact ⟨xs, h1, h2.cut0 hf hm c.clo⟩
  | lok l =>
    obtain ⟨_, _, _, c⟩ := h0
    obtain ⟨o, xs, h1, h2⟩ := h
    exact ⟨o, xs, h1, h2.cut0 hf hm c.clo⟩
  | ins c vs =>
    obtain ⟨_, _, _, _, c⟩ := h0
    obtain ⟨k, dx, xs, h1, h2⟩ := h
    exact ⟨k, dx, xs, h1, h2.cut0 hf hm c.clo⟩
/-- the view of the first n objects -/
def Vw.cut (ι : Vw) (n n' : Nat) : Vw := ⟨ι.f, fun a => ι.M a ∧ ∀ i, n ≤ i → i < n' → ι i ≠ a⟩
theorem take_get {α : Type} {l m : List α} {i : Nat} {a : α} (h : l.take m.length = m) (e : m[i]? = some a) : l[i]? = some a := by
  have hi := (List.getElem?_eq_some_iff.mp e).1
  rw [← h, List.getElem?_take, if_pos hi] at e
  exact e
theorem take_len {α : Type} {l m : List α} (h : l.take m.length = m) : m.length ≤ l.length := by
  have := congrArg List.length h
  rw [List.length_take] at this
  omega
theorem Sim.cut {ι0 : Vw} {H0 : Hp} (S0 : Sim K ι0 G H0) (S : Sim K ι G' H) (hg : G'.take G.length = G) : Sim K (ι.cut G.length G'.length) G H := by
  have hl := take_len hg
  refine ⟨fun i j hi hj e => S.inj i j (by omega) (by omega) e, fun i hi => ⟨S.mu i (by omega), fun j h1 h2 e => ?_⟩, fun a m => S.dom a m.1, fun i o e => ?_⟩
  · have := S.inj j i h2 (by omega) e
    omega
  · exact ORep.cut (ι := ι) (ι' := ι.cut G.length G'.length) (n := G.length) (fun _ _ => rfl) (fun a h m => h m.1) (S0.obj i o e) (S.obj i o (take_get hg e))
theorem Ext.cut {ι0 : Vw} {H0 : Hp} (x : Ext K ι0 n H0 ι n' H) : Ext K ι0 n H0 (ι.cut n n') n H :=
  ⟨Nat.le_refl _, x.same, x.tup, fun a xs h => have q := x.fro a xs h; ⟨q.1, fun m => q.2 m.1⟩, fun a xs h => have q := x.frd a xs h; ⟨q.1, fun m => q.2 m.1⟩, x.frz, fun a u h1 h2 h3 => by
    obtain ⟨e1, e2, e3⟩ := x.res a u h1 h2 h3
    exact ⟨e1, ⟨e2, fun i _ hi => e3 i hi⟩, fun i hi => e3 i (Nat.lt_of_lt_of_le hi x.le)⟩⟩
theorem frz1_ok {v w : Val} {x : V} (S : Sim K ι G' H) (h : frz1 n G' v = some w) (r : Rep K ι G'.length H v x) : Rep K (ι.cut n G'.length) n H w x := by
  have hm : ∀ a, ¬ ι.M a → ¬ (ι.cut n G'.length).M a := fun a h m => h m.1
  have key : ∀ u : Val, (if R1.clo n u = true then some u else none) = some w → Rep K ι G'.length H u x → Rep K (ι.cut n G'.length) n H w x := fun u e r => by
    by_cases c : R1.clo n u = true
    · rw [if_pos c] at e
      cases e
      exact Rep.cut (ι := ι) (ι' := ι.cut n G'.length) (fun _ _ => rfl) hm c r
    · rw [if_neg c] at e
      cases e
  unfold frz1 at h
  cases v with
  | obj i =>
    dsimp only at h
    by_cases hi : i < n
    · rw [if_pos hi] at h
      cases h
      exact ⟨hi, r.2⟩
    · rw [if_neg hi] at h
      have nm : ¬ (ι.cut n G'.length).M (ι i) := fun m => m.2 i (Nat.le_of_not_lt hi) r.1 rfl
      cases e : G'[i]? with
      | none => rw [e] at h; cases h
      | some o =>
        rw [e] at h
        cases o with
        | lst l =>
          dsimp only at h
          by_cases c : cloL n l = true
          · rw [if_pos c] at h
            cases h
            obtain ⟨xs, h1, h2⟩ := S.lst e
            exact ⟨ι i, xs, r.2, ⟨h1, nm⟩, Reps.cut0 (ι := ι) (ι' := ι.cut n G'.length) (fun _ _ => rfl) hm c h2⟩
          · rw [if_neg c] at h
            cases h
        | dic l =>
          dsimp only at h
          by_cases c : cloD n l = true
          · rw [if_pos c] at h
            cases h
            obtain ⟨xs, h1, h2⟩ := S.dic e
            exact ⟨ι i, xs, r.2, ⟨.inl h1, nm⟩, KReps.cut0 (ι := ι) (ι' := ι.cut n G'.length) (fun _ _ => rfl) hm c h2⟩
          · rw [if_neg c] at h
            cases h
        | _ => cases h
  | _ => exact key _ h r
theorem frzs_ok (S : Sim K ι G' H) : ∀ {l m : List Val} {xs : List V}, optAll (frz1 n G') l = some m → Reps K ι G'.length H l xs → Reps K (ι.cut n G'.length) n H m xs
  | [], m, xs, h, r => by
    cases h
    exact r
  | v :: l, m, xs, h, ⟨y, ys, e, r1, r2⟩ => by
    obtain ⟨b, s, e1, e2, rfl⟩ := optAll_cons h
    exact ⟨y, ys, e, frz1_ok S e1 r1, frzs_ok S e2 r2⟩
theorem frzV_ok {v w : Val} {x : V} (S : Sim K ι G' H) (h : frzV n G' v = some w) (r : Rep K ι G'.length H v x) : Rep K (ι.cut n G'.length) n H w x := by
  unfold frzV at h
  cases v with
  | tup l =>
    dsimp only at h
    by_cases c : cloL n l = true
    · rw [if_pos c] at h
      cases h
      exact Rep.cut (ι := ι) (ι' := ι.cut n G'.length) (fun _ _ => rfl) (fun a h m => h m.1) (v := .tup l) c r
    · rw [if_neg c] at h
      cases e : optAll (frz1 n G') l with
      | none => rw [e] at h; cases h
      | some m =>
        rw [e] at h
        cases h
        obtain ⟨a, xs, ex, h1, h2⟩ := r
        exact ⟨a, xs, ex, h1, frzs_ok S e h2⟩
  | _ => exact frz1_ok S h r
theorem trunc_post {E : XK} {r : Res Val} {Q : VK} (S : Sim K ι G H) (h : Post K E ι G.length H (trunc G r) fun ι' G' H' v => ∀ x, Rep K ι' G'.length H' v x → Q x H') : Post K E ι G.length H r fun ι' G' H' v => ∀ x, Rep K ι' G'.length H' v x → Q x H' := by
  cases r with
  | exc c G' => exact h
  | bad => exact h
  | ok v G' =>
    unfold trunc at h
    dsimp only at h
    by_cases hg : G'.take G.length = G
    · rw [if_pos hg] at h
      cases e : frzV G.length G' v with
      | none => rw [e] at h; exact h
      | some w =>
        rw [e] at h
        exact fun ι' H' x S' z rz => h (ι'.cut G.length G'.length) H' x.cut (S.cut S' hg) z (frzV_ok S' e rz)
    · rw [if_neg hg] at h
      exact h
end
/-- what m says holds of m', too -/
def Wk (np : Nat) (m m' : F1) : Prop := ∀ (K : PySem.W.Frag) (xs : List V) (H : Hp) (Q : VK) (E : XK), spF K np m xs H Q E → spF K np m' xs H Q E
theorem Wk.refl {np : Nat} {m : F1} : Wk np m m := fun _ _ _ _ _ h => h
noncomputable def runDefT (N np : Nat) (b : SM) : F1 := fun vs G => trunc G (runDef N np b vs G)
theorem runDefT_ar {N np : Nat} {b : SM} : Arity np (runDefT N np b) := fun vs G h => by
  unfold runDefT
  rw [runDef_ar vs G h]
  rfl
theorem Wk.trunc {N np : Nat} {b : SM} : Wk np (runDefT N np b) (runDef N np b) := fun K xs H Q E ⟨ι, G, vs, S, r, hl, p⟩ => ⟨ι, G, vs, S, r, hl, trunc_post S p⟩
section
variable {P : Program} {w : World} {K : PySem.W.Frag} {mg : Str → Option Value} {base : Heap} {CX : CXT} {x qual : Str} {params : Arguments} {body : List Stmt} {scope : Scope} {dvs : List V} {kws : List (Str × V)} {fa : Addr} {fd : FuncData} {N ps : List Str} {k : Nat} {b : SM} {m : F1}
theorem fn_okM (hm : Wk ps.length m (runDef N.length ps.length b)) (F : FunD K x qual params body scope dvs kws fa fd) (S : FnScope N ps scope)
    (hb : ∀ (cdv : Value) (A : Around) (outer : List Env) (s : Shared) (H : Hp) (E : XK), Room k (A.deeper (envOfC qual scope s.heap.objs.size fa cdv)) → RSs (cxOf CX P w K mg base N qual scope fa cdv A outer s H E) E body b) :
    FnOk P w K mg base CX (k + 1) fa fd ps (spF K ps.length m) :=
  F.ok S (fun vs H Q E ⟨ι, G, us, _, r, hl, _⟩ => by rw [r.length]; exact hl) fun cdv A outer s H vs Q E hr h => ⟨_, hb cdv A outer s H E hr, body_w (hm _ _ _ _ _ h)⟩
end
end R1
/-! R1h: what printed proofs name: facts of the top, defs, walks over lists or tuples. -/
namespace R1
open PySem PySem.Spec PyProof.Rows L2
/-! ### one of two ways -/
theorem re_sel {X : Cx} {E : XK} {e : Expr} {m m1 m2 : EM} (h1 : RE X E e m1) (h2 : RE X E e m2) (h : ∀ ρ G, m ρ G = m1 ρ G ∨ m ρ G = m2 ρ G) : RE X E e m := ⟨fun pins s σ H Q I ⟨ι, G, ρ, S, sl, p⟩ => by
  rcases h ρ G with e0 | e0
  · exact h1.run pins s σ H Q I ⟨ι, G, ρ, S, sl, by rw [← e0]; exact p⟩
  · exact h2.run pins s σ H Q I ⟨ι, G, ρ, S, sl, by rw [← e0]; exact p⟩⟩
theorem rt_sel {X : Cx} {E : XK} {e : Expr} {m m1 m2 : TM} (h1 : RT X E e m1) (h2 : RT X E e m2) (h : ∀ ρ G, m ρ G = m1 ρ G ∨ m ρ G = m2 ρ G) : RT X E e m := ⟨fun pins s σ H Q I ⟨ι, G, ρ, S, sl, p⟩ => by
  rcases h ρ G with e0 | e0
  · exact h1.run pins s σ H Q I ⟨ι, G, ρ, S, sl, by rw [← e0]; exact p⟩
  · exact h2.run pins s σ H Q I ⟨ι, G, ρ, S, sl, by rw [← e0]; exact p⟩⟩
theorem rs_sel {X : Cx} {E : XK} {st : Stmt} {m m1 m2 : SM} (h1 : RS X E st m1) (h2 : RS X E st m2) (h : ∀ ρ G, m ρ G = m1 ρ G ∨ m ρ G = m2 ρ G) : RS X E st m := ⟨fun pins s σ H D I ⟨ι, G, ρ, S, sl, p⟩ => by
  rcases h ρ G with e0 | e0
  · exact h1.run pins s σ H D I ⟨ι, G, ρ, S, sl, by rw [← e0]; exact p⟩
  · exact h2.run pins s σ H D I ⟨ι, G, ρ, S, sl, by rw [← e0]; exact p⟩⟩
/-- a walk over a list or a tuple -/
def sForA (m : EM) (p : Pt) (b : SM) : SM := fun ρ G => (m ρ G).toS fun v G1 => match v with
  | .tup l => forIt p b l ρ G1
  | .fro l => forIt p b l ρ G1
  | .obj i => (match G1[i]? with
    | some (.lst l) => forOb p b i l 0 ρ G1
    | _ => .bad)
  | _ => .bad
section
variable {X : Cx} {E : XK} {tg iter elt : Expr} {ifs : List Expr} {body : List Stmt} {scope : Scope} {own : List (Str × Nat)} {mi te : EM} {tt : TM} {p : Pt} {b : SM} {pos : Pos}
theorem rs_forA (hp : PassesOwn (model X.prog X.w) X.A X.env X.xe) (hc : X.calm = true) (hi : RE X E iter mi) (hg : RG X tg p) (hb : RSs X E body b) (hs : ∀ x, foldedSetIterable iter X.env x = pure x := by intro _; rfl) :
    RS X E (.For tg iter body [] pos) (sForA mi p b) :=
  rs_sel (rs_forL hp hc hi hg hb hs) (rs_forT hp hc hi hg hb hs) fun ρ G => by
    unfold sForA sForL sForT
    cases mi ρ G with
    | ok v G1 => cases v <;> first | exact .inl rfl | exact .inr rfl
    | _ => exact .inl rfl
/-! what a walk asks, for the statement name = [..] -/
end
/-! ### all, any -/
theorem plOk_by {f : Str} {pl : List (Nat × Nat)} (h : (pl.all fun q => decide ((cfields q.1)[q.2]? = some f)) = true) : PlOk f pl := fun q hq => of_decide_eq_true (List.all_eq_true.mp h q hq)
/-! ### names -/
section
variable {X : Cx} {E : XK} {pos : Pos}
theorem rv (i : Nat) {x : Str} (hN : X.N[i]? = some x := by rfl) (hv : Vis X.env.scope x := by first | exact .inl rfl | exact .inr (.inl rfl) | exact .inr (.inr rfl)) (hd : (x == ("__debug__" : Str)) = false := by decide) (hcd : (x == ("__classdict__" : Str)) = false := by decide) : RE X E (.Name x pos) (eVar i) := re_var hN hv hd hcd
theorem rgn (i : Nat) {x : Str} (hN : X.N.Nodup) (hi : X.N[i]? = some x := by rfl) (hx : L2.Loc X.env.scope x := by first | exact .inl rfl | exact .inr rfl) (hf : X.fn x = true ∨ X.env.scope.names.lookup x = some .local := by first | exact .inl rfl | exact .inr rfl) : RG X (.Name x pos) (.nm i) := rg_name hN hi hx hf
theorem rgc (i : Nat) {l : List Nat} {x : Str} {es : List Expr} (hN : X.N.Nodup) (h2 : RGs X es l) (hi : X.N[i]? = some x := by rfl) (hx : L2.Loc X.env.scope x := by first | exact .inl rfl | exact .inr rfl)
    (hf : X.fn x = true ∨ X.env.scope.names.lookup x = some .local := by first | exact .inl rfl | exact .inr rfl) (hs : assignEach (.Name x pos :: es) X.env = (false, assign (.Name x pos) X.env) :: assignEach es X.env := by rfl) : RGs X (.Name x pos :: es) (i :: l) := rgs_cons hN hi hx h2 hf hs
theorem rst (i : Nat) {x : Str} {e : Expr} {me : EM} {pos' : Pos} (hN : X.N.Nodup) (he : RE X E e me) (hi : X.N[i]? = some x := by rfl) (hx : L2.Loc X.env.scope x := by first | exact .inl rfl | exact .inr rfl) (hs : swapsWith e (some (.Name x pos')) pos.line X.env = pure false := by rfl) (hf : X.fn x = true ∨ X.env.scope.names.lookup x = some .local := by first | exact .inl rfl | exact .inr rfl) :
    RS X E (.Assign [.Name x pos'] e pos) (sSet i me) := rs_set hN hi hx he hs hf
def eNeg (m : EM) : EM := fun ρ G => (m ρ G).bind fun v G1 => match v with
  | .int i => .ok (.int (-i)) G1
  | _ => .bad
theorem re_neg {e : Expr} {me : EM} (he : RE X E e me) : RE X E (.UnaryOp .USub e pos) (eNeg me) := by
  refine pe_weak (pe_un un_neg he) fun σ H Q ⟨ι, G, ρ, S, sl, p⟩ => run1 S sl ((Post.bind p).mono fun ι1 G1 H1 v x1 S1 p1 x rx => ?_)
  cases v with
  | int i => exact ⟨i, rx, p1.here S1 _ rfl⟩
  | _ => exact p1.elim
end
/-! ### facts of the top -/
theorem passE {X : Cx} {E : XK} : Passes CX0 X E := fun _ _ _ _ _ _ _ h => h.elim
structure Txt (fa : List He.Fa) (fn : List He.DefD) (fx : List (PySem.W.Frag → Bool)) (ts : List He.Tab) (w : World) (K : PySem.W.Frag) (mg : Str → Option Value) : Prop where
  more : ∀ f ∈ fx, f K = true
  says : He.SaysD fa fn K
  tabs : ∀ (i : Nat) (t : He.Tab), ts[i]? = some t → ∃ es n, L2.KDict K w (t.1 K) es n
  ns : ∃ h : Heap, K.In h ∧ h.Ns mainGlobals mg
section
variable {fa : List He.Fa} {fn : List He.DefD} {fx : List (PySem.W.Frag → Bool)} {ts : List He.Tab} {P : Program} {w : World} {K : PySem.W.Frag} {mg : Str → Option Value} {base : Heap}
theorem Txt.glo (T : Txt fa fn fx ts w K mg) (i : Nat) {x : Str} (h : fa[i]? = some (.glo x) := by rfl) : mg x = some (.ref (He.ga K x)) := by
  obtain ⟨hp, h1, h2⟩ := T.ns
  exact He.glo_ok h1 h2 (T.says.fact i h)
theorem Txt.free (T : Txt fa fn fx ts w K mg) (i : Nat) {x : Str} (h : fa[i]? = some (.free x) := by rfl) : mg x = none := by
  obtain ⟨hp, h1, h2⟩ := T.ns
  exact He.free_ok h1 h2 (T.says.fact i h)
theorem Txt.int (T : Txt fa fn fx ts w K mg) (i : Nat) {x : Str} {k : Int} (h : fa[i]? = some (.int x k) := by rfl) : ∃ t, mg x = some (.int k t) := by
  obtain ⟨hp, h1, h2⟩ := T.ns
  exact He.int_ok h1 h2 (T.says.fact i h)
/-- a whole number of the module -/
theorem rgi {X : Cx} {E : XK} {x : Str} {p : Pos} {k : Int} (T : Txt fa fn fx ts w X.K X.mg) (i : Nat) (hg : Gl X x := by rfl) (h : fa[i]? = some (.int x k) := by rfl) (hd : (x == ("__debug__" : Str)) = false := by decide) : RE X E (.Name x p) (eC (.int k)) := by
  obtain ⟨t, ht⟩ := T.int i h
  exact re_gint (pe_glob hg ht ⟨t, rfl⟩ hd)
/-- a built-in class's name -/
theorem pty {X : Cx} {x : Str} {T : String} {p : Pos} (E0 : Txt fa fn fx ts w X.K X.mg) (i : Nat) (hv : bootBuiltins x = some (.type T)) (hg : Gl X x := by rfl) (h : fa[i]? = some (.free x) := by rfl) (hn : x ≠ ("__name__" : Str) := by decide) (hd : (x == ("__debug__" : Str)) = false := by decide) : PE X (.Name x p) (fun σ H Q => Q (.ty T) H) := pe_bltn hg (E0.free i h) hv rfl hn hd
/-- the classes -/
theorem Txt.clsOk (T : Txt fa fn fx ts w K mg) (c i j : Nat) (hi : fa[i]? = some (.cls (cname c)) := by rfl) (hj : (fa.drop j).take (cfields c).length = (cfields c).map (He.Fa.noat (cname c)) := by rfl) : ClsOk K c := by
  refine ⟨He.cls_ok (T.says.fact i hi), fun f hf => ?_⟩
  have hm : He.Fa.noat (cname c) f ∈ fa := by
    have h1 : He.Fa.noat (cname c) f ∈ (cfields c).map (He.Fa.noat (cname c)) := List.mem_map_of_mem hf
    rw [← hj] at h1
    exact List.mem_of_mem_drop (List.mem_of_mem_take h1)
  obtain ⟨k, hk, e⟩ := List.getElem_of_mem hm
  exact He.noat_ok (T.says.fact k (by rw [List.getElem?_eq_getElem hk, e]))
variable {params : Arguments} {body : List Stmt} {scope : Scope} {N ps : List Str} {k : Nat} {b : SM}
/-- how arguments meet parameters -/
abbrev BindOk (x qual : Str) (params : Arguments) (body : List Stmt) (scope : Scope) (ps : List Str) : Prop := ∀ (kV doc pm : Value) (an : Option Addr) (cdv ct : Value) (us : List Value), us.length = ps.length →
  bindArgs (PySem.W.fnOf x qual params body scope Value.none kV doc pm an cdv ct) { pos := us } = pure (ps.zip us)
abbrev Body0 (P : Program) (w : World) (K : PySem.W.Frag) (mg : Str → Option Value) (base : Heap) (N : List Str) (qual : Str) (body : List Stmt) (scope : Scope) (fa : Addr) (k : Nat) (b : SM) : Prop := ∀ (cdv : Value) (A : Around) (outer : List PySem.Env) (s : Shared) (H : Hp) (E : XK), Room k (A.deeper (envOfC qual scope s.heap.objs.size fa cdv)) →
  RSs (cxOf CX0 P w K mg base N qual scope fa cdv A outer s H E).nox E body b
theorem fn_ok0 {mm : F1} (hmm : Wk ps.length mm (runDef N.length ps.length b)) {x qual : Str} {f : Addr} {fd : FuncData} {dvs : List V} {kws : List (Str × V)} (F : FunD K x qual params body scope dvs kws f fd) (S : FnScope N ps scope) (hb : Body0 P w K mg base N qual body scope f k b) :
    FnOk P w K mg base CX0 (k + 1) f fd ps (spF K ps.length mm) := fn_okM hmm F S fun cdv A outer s H E hr => PSs.nox (hb cdv A outer s H E hr)
theorem gf0 {mm : F1} (hmm : Wk ps.length mm (runDef N.length ps.length b)) (T : Txt fa fn fx ts w K mg) (i j : Nat) {x : Str} (S : FnScope N ps scope) (hb : ∀ f, Body0 P w K mg base N x body scope f k b) (B : BindOk x x params body scope ps) (hi : fn[i]? = some ⟨(x, none), x, x, params, body, scope, [], []⟩ := by rfl) (hj : fa[j]? = some (.glo x) := by rfl) :
    GF P w K mg base CX0 (k + 1) x ps.length mm [] := by
  obtain ⟨fd, F⟩ := T.says.def_ i hi
  exact ⟨_, fd, ps, [], T.glo j hj, F.kp, fn_ok0 hmm F S (hb _), F.bindsN B, rfl, .nil⟩
theorem mf0 {mm : F1} (hmm : Wk ps.length mm (runDef N.length ps.length b)) (T : Txt fa fn fx ts w K mg) (i j l c : Nat) {m q : Str} (S : FnScope N ps scope) (hb : ∀ f, Body0 P w K mg base N q body scope f k b) (B : BindOk m q params body scope ps) (hi : fn[i]? = some ⟨(cname c, some m), m, q, params, body, scope, [], []⟩ := by rfl) (hj : fa[j]? = some (.meth (cname c) m) := by rfl) (hl : fa[l]? = some (.cls (cname c)) := by rfl) (hm : m ∉ cfields c := by decide +kernel) :
    MF P w K mg base CX0 (k + 1) c m ps.length mm [] := by
  obtain ⟨fd, F⟩ := T.says.def_ i hi
  exact ⟨hm, He.cls_ok (T.says.fact l hl), _, fd, ps, [], He.meth_ok (T.says.fact j hj), fn_ok0 hmm F S (hb _), F.bindsN B, rfl, .nil⟩
theorem cf0 {mm : F1} (hmm : Wk ps.length mm (runDef N.length ps.length b)) (T : Txt fa fn fx ts w K mg) (i j l c : Nat) {q : Str} (ok : ClsOk K c) (S : FnScope N ps scope) (hb : ∀ f, Body0 P w K mg base N q body scope f k b) (B : BindOk "__init__" q params body scope ps) (hi : fn[i]? = some ⟨(cname c, some "__init__"), "__init__", q, params, body, scope, [], []⟩ := by rfl) (hj : fa[j]? = some (.mkr (cname c)) := by rfl) (hl : fa[l]? = some (.glo (cname c)) := by rfl) :
    CF P w K mg base CX0 (k + 1) c ps.length mm [] := by
  obtain ⟨fd, F⟩ := T.says.def_ i hi
  exact ⟨ok, T.glo l hl, _, fd, ps, [], He.mkr_ok (T.says.fact j hj), fn_ok0 hmm F S (hb _), F.bindsN B, rfl, .nil⟩
/-- the law's own promise, from what its mirror answers -/
theorem end_of {H : Hp} {a : Addr} {ns : List Int} {m : F1} {E : XK} (ho : Only H) (hS : SqL K H a (ns.map V.int)) (h : ∃ G, m [.scr (ns.map Val.int)] [] = .ok (.bl true) G) : spF K 1 m [.ref a] H (fun v _ => v = .bl true) E := by
  obtain ⟨G, e⟩ := h
  refine ⟨⟨fun _ => 0, fun _ => False⟩, [], [.scr (ns.map Val.int)], ⟨fun i j hi => absurd hi (Nat.not_lt_zero i), fun i hi => absurd hi (Nat.not_lt_zero i), fun a m => m.elim, fun i o e => by simp at e⟩, ⟨.ref a, [], rfl, ⟨a, _, rfl, ?_, ints_reps ns⟩, rfl⟩, rfl, ?_⟩
  · rcases hS with h | h
    · rcases h with h | h
      · rcases ho a with e | ⟨o, xs, e⟩
        · rw [e] at h
          cases h
        · rw [e] at h
          cases h
      · exact .inl h
    · exact .inr h
  · rw [e]
    exact fun ι' H' x S z rz => rz
end
end R1
/-! R1i: places given values, dicts. -/
namespace R1
open PySem PySem.Spec PyProof.Rows L2
/-! ### dicts change -/
section
variable {K : PySem.W.Frag} {ι : Vw} {n : Nat} {H : Hp}
theorem any_rep {k : Ky} : ∀ {l : List (Ky × Val)} {xs : List (Key × V)}, KReps K ι n H l xs → (xs.any fun kv => decide (kv.1 = kyOf k)) = (l.any fun kv => decide (kv.1 = k))
  | [], _, h => by rw [show _ = [] from h]; rfl
  | q :: l, _, ⟨y, ys, h1, _, h3⟩ => by
    rw [h1, List.any_cons, List.any_cons, any_rep h3]
    congr 1
    exact kyOf_dec q.1 k
theorem KReps.app {l m : List (Ky × Val)} : ∀ {xs ys : List (Key × V)}, KReps K ι n H l xs → KReps K ι n H m ys → KReps K ι n H (l ++ m) (xs ++ ys) := by
  induction l with
  | nil =>
    intro xs ys h h'
    rw [show xs = [] from h]
    exact h'
  | cons q l ih =>
    rintro xs ys ⟨y, zs, h1, h2, h3⟩ h'
    rw [h1]
    exact ⟨y, zs ++ ys, rfl, h2, ih h3 h'⟩
theorem KReps.put {k : Ky} {v : Val} {x : V} (r : Rep K ι n H v x) {l : List (Ky × Val)} {xs : List (Key × V)} (h : KReps K ι n H l xs) : KReps K ι n H (putKy l k v) (putK xs (kyOf k) x) := by
  unfold putKy putK
  rw [any_rep h]
  by_cases c : (l.any fun kv => decide (kv.1 = k)) = true
  · rw [if_pos c, if_pos c]
    clear c
    induction l generalizing xs with
    | nil =>
      rw [show xs = [] from h]
      exact rfl
    | cons q l ih =>
      obtain ⟨y, ys, h1, h2, h3⟩ := h
      rw [h1, List.map_cons, List.map_cons]
      by_cases e : q.1 = k
      · have e' : kyOf q.1 = kyOf k := by rw [e]
        rw [if_pos e]
        refine ⟨x, ys.map fun kv => if kv.1 = kyOf k then (kv.1, x) else kv, ?_, r, ih h3⟩
        rw [if_pos (show ((kyOf q.1, y) : Key × V).1 = kyOf k from e')]
      · have e' : ¬ kyOf q.1 = kyOf k := fun z => e (kyOf_inj z)
        rw [if_neg e]
        refine ⟨y, ys.map fun kv => if kv.1 = kyOf k then (kv.1, x) else kv, ?_, h2, ih h3⟩
        rw [if_neg (show ¬ ((kyOf q.1, y) : Key × V).1 = kyOf k from e')]
  · rw [if_neg c, if_neg c]
    exact h.app ⟨x, [], rfl, r, rfl⟩
theorem KReps.drop {k : Ky} : ∀ {l : List (Ky × Val)} {xs : List (Key × V)}, KReps K ι n H l xs → KReps K ι n H (dropKy l k) (dropK xs (kyOf k))
  | [], _, h => by
    rw [show _ = [] from h]
    exact rfl
  | q :: l, _, ⟨y, ys, h1, h2, h3⟩ => by
    have ih := KReps.drop (k := k) h3
    unfold dropKy dropK at ih ⊢
    rw [h1]
    by_cases e : q.1 = k
    · have e' : kyOf q.1 = kyOf k := by rw [e]
      rw [List.filter_cons_of_neg (by simp [e]), List.filter_cons_of_neg (by simp [e'])]
      exact ih
    · have e' : ¬ kyOf q.1 = kyOf k := fun z => e (kyOf_inj z)
      rw [List.filter_cons_of_pos (by simp [e]), List.filter_cons_of_pos (by simp [e'])]
      exact ⟨y, _, rfl, h2, ih⟩
end
/-- d.get(k), d[k] by what f makes of what stands there -/
def eDget (o m : EM) (f : Option Val → Option Val) : EM := fun ρ G => (o ρ G).bind fun v G1 => match dicOf G1 v with
  | none => .bad
  | some _ => (m ρ G1).bind fun u G2 => (match dicOf G2 v, keyOf u with
    | some l, some k => (match f (lookK l k) with
      | some w => .ok w G2
      | none => .bad)
    | _, _ => .bad)
def eDget2 (o m d : EM) : EM := fun ρ G => (o ρ G).bind fun v G1 => match dicOf G1 v with
  | none => .bad
  | some _ => (m ρ G1).bind fun u G2 => (d ρ G2).bind fun z G3 => (match dicOf G3 v, keyOf u with
    | some l, some k => .ok ((lookK l k).getD z) G3
    | _, _ => .bad)
def eDin (neg : Bool) (m o : EM) : EM := fun ρ G => (m ρ G).bind fun u G1 => (o ρ G1).bind fun v G2 => match dicOf G2 v, keyOf u with
  | some l, some k => .ok (.bl (neg != (lookK l k).isSome)) G2
  | _, _ => .bad
def isDic (G : Store) (v : Val) : Option (Nat × List (Ky × Val)) := match v with
  | .obj i => (match G[i]? with
    | some (.dic l) => some (i, l)
    | _ => none)
  | _ => none
/-- d[k] = e -/
def sDput (o m e : EM) : SM := fun ρ G => (e ρ G).toS fun w G1 => (o ρ G1).toS fun v G2 => (m ρ G2).toS fun u G3 => match isDic G3 v, keyOf u with
  | some (i, l), some k => if l.length < sizeLine then .next ρ (G3.set i (.dic (putKy l k w))) else .bad
  | _, _ => .bad
theorem isDic_at {K : PySem.W.Frag} {ι : Vw} {G : Store} {H : Hp} {v : Val} {x : V} {i : Nat} {l : List (Ky × Val)} (S : Sim K ι G H) (r : Rep K ι G.length H v x) (h : isDic G v = some (i, l)) : x = .ref (ι i) ∧ G[i]? = some (.dic l) ∧ ∃ xs, H (ι i) = some (.dK xs) ∧ KReps K ι G.length H l xs := by
  unfold isDic at h
  cases v with
  | obj j =>
    dsimp only at h
    cases e : G[j]? with
    | none => rw [e] at h; cases h
    | some o =>
      rw [e] at h
      cases o with
      | dic m =>
        cases h
        exact ⟨r.2, e, S.dic e⟩
      | _ => cases h
  | _ => cases h
theorem dget_at {K : PySem.W.Frag} {E : XK} {ι : Vw} {G : Store} {H : Hp} {v u : Val} {x y : V} {l : List (Ky × Val)} {k : Ky} (S : Sim K ι G H) (rx : Rep K ι G.length H v x) (ry : Rep K ι G.length H u y) (e1 : dicOf G v = some l) (e2 : keyOf u = some k) :
    ∃ a o, x = .ref a ∧ DGet H a y o ∧ (∀ w, lookK l k = some w → ∃ z, o = some z ∧ Rep K ι G.length H w z) ∧ (lookK l k = none → o = none) := by
  obtain ⟨a, ys, ey, g1, g2⟩ := dicOf_at S rx e1
  exact ⟨a, valV ys (kyOf k), ey, .inl ⟨ys, kyOf k, g1, key_rep ry e2, rfl⟩, g2.val.1, g2.val.2⟩
section
variable {X : Cx} {E : XK} {o e d : Expr} {mo me md : EM} {apos cpos pos pos' : Pos}
theorem din_w {neg : Bool} : ∀ σ H Q, tE X.K E (eDin neg me mo) σ H Q → tE X.K E me σ H fun y H1 => tE X.K E mo σ H1 fun x H2 => ∃ a oo, x = .ref a ∧ DGet H2 a y oo ∧ Q (.bl (neg != oo.isSome)) H2 := fun σ H Q ⟨ι, G, ρ, S, sl, q⟩ =>
  run1 S sl ((Post.bind q).mono fun ι1 G1 H1 u x1 S1 q1 y ry => run1 S1 (sl.ext x1) ((Post.bind q1).mono fun ι2 G2 H2 v x2 S2 q2 x rx => by
    cases e2 : dicOf G2 v with
    | none => rw [e2] at q2; exact q2.elim
    | some l =>
      cases e3 : keyOf u with
      | none => rw [e2, e3] at q2; exact q2.elim
      | some k =>
        rw [e2, e3] at q2
        dsimp only at q2
        obtain ⟨a, oo, ey, g1, g2, g3⟩ := dget_at (E := E) S2 rx (ry.ext x2) e2 e3
        refine ⟨a, oo, ey, g1, ?_⟩
        have e5 : oo.isSome = (lookK l k).isSome := by
          cases e4 : lookK l k with
          | none => rw [g3 e4]; rfl
          | some w => obtain ⟨z, ez, _⟩ := g2 w e4; rw [ez]; rfl
        rw [e5]
        exact q2.here S2 _ rfl))
theorem din_t (neg : Bool) : ∀ σ H Q, tE X.K E (eDin neg me mo) σ H Q → (bif neg then tDNotIn (tE X.K E me) (tE X.K E mo) else tDIn (tE X.K E me) (tE X.K E mo)) σ H Q := fun σ H Q h => by
  have h2 := din_w σ H Q h
  cases neg with
  | false =>
    show tE X.K E me σ H fun y H1 => tE X.K E mo σ H1 fun x H2 => ∃ a o, x = .ref a ∧ DGet H2 a y o ∧ Q (.bl o.isSome) H2
    simpa only [Bool.false_bne] using h2
  | true =>
    show tE X.K E me σ H fun y H1 => tE X.K E mo σ H1 fun x H2 => ∃ a o, x = .ref a ∧ DGet H2 a y o ∧ Q (.bl !o.isSome) H2
    simpa only [Bool.true_bne] using h2
theorem rt_din (hu : X.A.units + 64 < cLine) (he : RE X E e me) (ho : RE X E o mo) (hm : behindInMarks .In o = false := by rfl) : RT X E (.Compare e [.In] [o] pos) (eTest (eDin false me mo)) := rt_of (pt_cmp (pc_din (by omega) he ho) hm) (din_t false)
theorem rt_dnotin (hu : X.A.units + 64 < cLine) (he : RE X E e me) (ho : RE X E o mo) (hm : behindInMarks .NotIn o = false := by rfl) : RT X E (.Compare e [.NotIn] [o] pos) (eTest (eDin true me mo)) := rt_of (pt_cmp (pc_dnotin (by omega) he ho) hm) (din_t true)
theorem rs_dput (hu : X.A.units + 64 < cLine) (ho : RE X E o mo) (he : RE X E e me) (hd : RE X E d md) (hs : swapsWith d (some (.Subscript o e pos')) pos.line X.env = pure false := by rfl) : RS X E (.Assign [.Subscript o e pos'] d pos) (sDput mo me md) := by
  refine ps_weak (ps_dput (by omega) ho he hd hs) fun D σ H ⟨ι, G, ρ, S, sl, q⟩ => run1 S sl (q.ofRes.mono fun ι1 G1 H1 w x1 S1 q1 z rz => run1 S1 (sl.ext x1) (q1.ofRes.mono fun ι2 G2 H2 v x2 S2 q2 x rx => run1 S2 (sl.ext (x1.trans x2)) (q2.ofRes.mono fun ι3 G3 H3 u x3 S3 q3 y ry => ?_)))
  cases e2 : isDic G3 v with
  | none => rw [e2] at q3; exact q3.elim
  | some p2 =>
    obtain ⟨i, l⟩ := p2
    cases e3 : keyOf u with
    | none => rw [e2, e3] at q3; exact q3.elim
    | some k =>
      rw [e2, e3] at q3
      dsimp only at q3
      obtain ⟨ey, eg, ys, g1, g2⟩ := isDic_at S3 (rx.ext x3) e2
      by_cases hl : l.length < sizeLine
      · rw [if_pos hl] at q3
        obtain ⟨s3, x4⟩ := S3.set (u := .dK (putK ys (kyOf k) z)) (o := .dic (putKy l k w)) eg rfl ⟨_, upd_same, (g2.put (rz.ext (x2.trans x3))).ext (Ext.updE (S3.fr eg g1 trivial))⟩
        exact ⟨ι3 i, _, ey, .inl ⟨ys, kyOf k, g1, key_rep ry e3, by rw [g2.length]; exact hl, rfl⟩, q3 ι3 _ σ x4 s3 (sl.ext ((x1.trans x2).trans (x3.trans x4)))⟩
      · rw [if_neg hl] at q3
        exact q3.elim
end
end R1
/-! R1j: items of lists given values. -/
namespace R1
open PySem PySem.Spec PyProof.Rows L2
/-- the item at i of a list is given a value -/
def setIx (v u w : Val) (G : Store) : Option Store := match u with
  | .int k => setLst v (fun l => (ixN l.length k).map fun j => l.set j w) G
  | _ => none
/-- xs[i] = e -/
def sIxSet (o m e : EM) : SM := fun ρ G => (e ρ G).toS fun w G1 => (o ρ G1).toS fun v G2 => (m ρ G2).toS fun u G3 => match setIx v u w G3 with
  | some G4 => .next ρ G4
  | none => .bad
theorem setIx_ok {K : PySem.W.Frag} {ι : Vw} {G G' : Store} {H : Hp} {v u w : Val} {x y z : V} (S : Sim K ι G H) (rx : Rep K ι G.length H v x) (ry : Rep K ι G.length H u y) (rz : Rep K ι G.length H w z) (h : setIx v u w G = some G') :
    ∃ p xs k j, x = .ref p ∧ y = .int k ∧ H p = some (.lst xs) ∧ ixN xs.length k = some j ∧ Sim K ι G' (L2.upd H p (.lst (xs.set j z))) ∧ Ext K ι G.length H ι G'.length (L2.upd H p (.lst (xs.set j z))) := by
  unfold setIx at h
  cases u with
  | int k =>
    dsimp only at h
    obtain ⟨i, l, l', xs, rfl, e1, e2, e3, h1, h2, h3⟩ := setLst_ok S rx h
    cases e4 : ixN l.length k with
    | none => rw [e4] at e2; cases e2
    | some j =>
      rw [e4] at e2
      cases e2
      obtain ⟨s1, s2⟩ := h3 (xs.set j z) (h2.set rz j)
      exact ⟨ι i, xs, k, j, e3, ry, h1, by rw [h2.length]; exact e4, s1, s2⟩
  | _ => cases h
/-- an item of a list of the store -/
def fIxL : F2 := fun v u G => match v, u with
  | .obj i, .int k => (match G[i]? with
    | some (.lst l) => (match atL l k with
      | some w => .ok w G
      | none => .bad)
    | _ => .bad)
  | _, _ => .bad
/-- xs[i] += e -/
def sIxAug (o m e : EM) : SM := fun ρ G => (o ρ G).toS fun v G1 => (m ρ G1).toS fun u G2 => (fIxL v u G2).toS fun a G3 => (e ρ G3).toS fun b G4 => match addI a b with
  | some c => (match setIx v u c G4 with
    | some G5 => .next ρ G5
    | none => .bad)
  | none => .bad
section
variable {X : Cx} {E : XK} {o e d : Expr} {mo me md : EM} {pos pos' : Pos}
theorem rs_ixset (ho : RE X E o mo) (he : RE X E e me) (hd : RE X E d md) (hs : swapsWithSole [.Subscript o e pos'] d pos.line X.env = pure false := by rfl) (hw : swappedStores [.Subscript o e pos'] d X.env = pure none := by rfl)
    (h1 : (assignEach [.Subscript o e pos'] X.env).map (·.2) = [assign (.Subscript o e pos') X.env] := by rfl)
    (ha : ∀ (v : Value), assign (.Subscript o e pos') X.env v = (do
      let ov ← holding [v] (eval o X.env)
      let iv ← holding [v, ov] (eval e X.env)
      standAt pos'
      holding [v, ov, iv] (setItem ov iv v)
      release [v, ov, iv] []) := by intro _; rfl) : RS X E (.Assign [.Subscript o e pos'] d pos) (sIxSet mo me md) := by
  refine ps_weak (ps_asg hd (pg_sub ho he set_list ha) hs hw h1) fun D σ H ⟨ι, G, ρ, S, sl, q⟩ => run1 S sl (q.ofRes.mono fun ι1 G1 H1 w x1 S1 q1 z rz => run1 S1 (sl.ext x1) (q1.ofRes.mono fun ι2 G2 H2 v x2 S2 q2 x rx => run1 S2 (sl.ext (x1.trans x2)) (q2.ofRes.mono fun ι3 G3 H3 u x3 S3 q3 y ry => ?_)))
  cases e2 : setIx v u w G3 with
  | none => rw [e2] at q3; exact q3.elim
  | some G4 =>
    rw [e2] at q3
    obtain ⟨p, xs, k, j, a1, a2, a3, a4, s4, x4⟩ := setIx_ok S3 (rx.ext x3) ry (rz.ext (x2.trans x3)) e2
    exact ⟨p, xs, k, j, a1, a2, a3, a4, q3 ι3 _ σ x4 s4 (sl.ext ((x1.trans x2).trans (x3.trans x4)))⟩
end
end R1
/-! R1k: one word for lists and dicts. -/
namespace R1
open PySem PySem.Spec PyProof.Rows L2
theorem op_or {f g : F2} {a b : EM} (ρ : Env1) (G : Store) : eOp (orF f g) a b ρ G = eOp f a b ρ G ∨ eOp (orF f g) a b ρ G = eOp g a b ρ G := by
  unfold eOp
  cases a ρ G with
  | ok v G1 =>
    simp only [Res.bind]
    cases b ρ G1 with
    | ok u G2 =>
      simp only [Res.bind]
      unfold orF
      cases f v u G2 <;> first | exact .inl rfl | exact .inr rfl
    | exc c G2 => exact .inl rfl
    | bad => exact .inl rfl
  | exc c G1 => exact .inl rfl
  | bad => exact .inl rfl
section
variable {X : Cx} {E : XK} {o e d a b : Expr} {mo me md ma mb : EM} {pos pos' : Pos}
/-- a list's, a tuple's, a dict's item -/
theorem re_ixA (hu : X.A.units + 64 < cLine) (ha : RE X E a ma) (hb : RE X E b mb) (hs : PlainIx b := by intro _ _; rfl) (hs2 : NoSl b := by intro _ _; rfl) : RE X E (.Subscript a b pos) (eOp fIx ma mb) :=
  re_sel (re_ix ha hb hs) (re_ixD hu ha hb hs2) fun ρ G => op_or ρ G
/-- in a list, a tuple, a dict -/
def fDin (neg : Bool) : F2 := fun u v G => match dicOf G v, keyOf u with
  | some l, some k => .ok (.bl (neg != (lookK l k).isSome)) G
  | _, _ => .bad
def fInA (neg : Bool) : F2 := orF (fIn neg) (fDin neg)
theorem test_or {f g : F2} (ρ : Env1) (G : Store) : eTest (eOp (orF f g) ma mb) ρ G = eTest (eOp f ma mb) ρ G ∨ eTest (eOp (orF f g) ma mb) ρ G = eTest (eOp g ma mb) ρ G := by
  unfold eTest
  rcases op_or (f := f) (g := g) (a := ma) (b := mb) ρ G with e | e
  · exact .inl (by rw [e])
  · exact .inr (by rw [e])
theorem rt_inA (hu : X.A.units + 64 < cLine) (ha : RE X E a ma) (hb : RE X E b mb) (hm : behindInMarks .In b = false := by rfl) : RT X E (.Compare a [.In] [b] pos) (eTest (eOp (fInA false) ma mb)) :=
  rt_sel (rt_in hu ha hb hm) (rt_din hu ha hb hm) fun ρ G => test_or ρ G
theorem rt_notinA (hu : X.A.units + 64 < cLine) (ha : RE X E a ma) (hb : RE X E b mb) (hm : behindInMarks .NotIn b = false := by rfl) : RT X E (.Compare a [.NotIn] [b] pos) (eTest (eOp (fInA true) ma mb)) :=
  rt_sel (rt_notin hu ha hb hm) (rt_dnotin hu ha hb hm) fun ρ G => test_or ρ G
/-- o[i] = e, o a list or a dict -/
def putA (v u w : Val) (G : Store) : Option Store := match isDic G v with
  | some (i, l) => (match keyOf u with
    | some k => if l.length < sizeLine then some (G.set i (.dic (putKy l k w))) else none
    | none => none)
  | none => setIx v u w G
def sPut (o m e : EM) : SM := fun ρ G => (e ρ G).toS fun w G1 => (o ρ G1).toS fun v G2 => (m ρ G2).toS fun u G3 => match putA v u w G3 with
  | some G4 => .next ρ G4
  | none => .bad
theorem rs_put (hu : X.A.units + 64 < cLine) (ho : RE X E o mo) (he : RE X E e me) (hd : RE X E d md) (hs : swapsWith d (some (.Subscript o e pos')) pos.line X.env = pure false := by rfl) (hs' : swapsWithSole [.Subscript o e pos'] d pos.line X.env = pure false := by rfl) (hw : swappedStores [.Subscript o e pos'] d X.env = pure none := by rfl)
    (h1 : (assignEach [.Subscript o e pos'] X.env).map (·.2) = [assign (.Subscript o e pos') X.env] := by rfl)
    (ha : ∀ (v : Value), assign (.Subscript o e pos') X.env v = (do
      let ov ← holding [v] (eval o X.env)
      let iv ← holding [v, ov] (eval e X.env)
      standAt pos'
      holding [v, ov, iv] (setItem ov iv v)
      release [v, ov, iv] []) := by intro _; rfl) : RS X E (.Assign [.Subscript o e pos'] d pos) (sPut mo me md) :=
  rs_sel (rs_ixset ho he hd hs' hw h1 ha) (rs_dput hu ho he hd hs) fun ρ G => by
    unfold sPut sIxSet sDput
    cases md ρ G with
    | ok w G1 =>
      simp only [Res.toS]
      cases mo ρ G1 with
      | ok v G2 =>
        simp only
        cases me ρ G2 with
        | ok u G3 =>
          simp only
          unfold putA
          cases isDic G3 v with
          | none => exact .inl rfl
          | some p =>
            obtain ⟨i, l⟩ := p
            simp only
            cases keyOf u with
            | none => exact .inr rfl
            | some k =>
              simp only
              by_cases hl : l.length < sizeLine
              · rw [if_pos hl, if_pos hl]
                exact .inr rfl
              · rw [if_neg hl, if_neg hl]
                exact .inr rfl
        | _ => exact .inl rfl
      | _ => exact .inl rfl
    | _ => exact .inl rfl
end
end R1
/-! R1l: dict(d), list(d), sorted(d), len(d). -/
namespace R1
open PySem PySem.Spec PyProof.Rows L2
def keyV : Ky → Val
  | .inl i => .int i
  | .inr k => .str k
def intKeys : List (Ky × Val) → Option (List Int)
  | [] => some []
  | (.inl i, _) :: l => (intKeys l).map (i :: ·)
  | (.inr _, _) :: _ => none
def bDict (z : Bool) : F1 := fun vs G => match vs with
  | [v] => (match dicOf G v with
    | some l => mkD z l G
    | none => .bad)
  | _ => .bad
def bListD (z : Bool) : F1 := fun vs G => match vs with
  | [v] => (match dicOf G v with
    | some l => mkL z (l.map fun q => keyV q.1) G
    | none => .bad)
  | _ => .bad
def bSortD : F1 := fun vs G => match vs with
  | [v] => (match (dicOf G v).bind intKeys with
    | some l => if l.length < 64 then .ok (.fro ((sortI l).map .int)) G else .bad
    | none => .bad)
  | _ => .bad
section
variable {K : PySem.W.Frag} {E : XK} {ι : Vw} {n : Nat} {H : Hp}
theorem keys_rep : ∀ {l : List (Ky × Val)} {xs : List (Key × V)}, KReps K ι n H l xs → Reps K ι n H (l.map fun q => keyV q.1) (xs.map fun kv => kV kv.1)
  | [], _, h => by rw [show _ = [] from h]; exact rfl
  | q :: l, _, ⟨y, ys, h1, h2, h3⟩ => by
    rw [h1]
    refine ⟨kV (kyOf q.1), ys.map fun kv => kV kv.1, rfl, ?_, keys_rep h3⟩
    show Rep K ι n H (keyV q.1) (kV (kyOf q.1))
    cases q.1 <;> exact rfl
theorem intKeys_ok : ∀ {l : List (Ky × Val)} {ks : List Int} {xs : List (Key × V)}, intKeys l = some ks → KReps K ι n H l xs → xs.map (·.1) = ks.map Sum.inl
  | [], ks, xs, h, r => by
    cases h
    rw [show xs = [] from r]
    rfl
  | (.inl i, v) :: l, ks, xs, h, ⟨y, ys, h1, h2, h3⟩ => by
    have h0 : (intKeys l).map (i :: ·) = some ks := h
    cases e : intKeys l with
    | none => rw [e] at h0; cases h0
    | some ms =>
      rw [e] at h0
      cases h0
      rw [h1, List.map_cons, List.map_cons, intKeys_ok e h3]
      rfl
  | (.inr _, _) :: _, _, _, h, _ => by cases h
/-- one argument, a dict -/
theorem one_dic {G : Store} {vs : List Val} {xs : List V} {β : Type} {g : List (Ky × Val) → Option β} {k : β → Store → Res Val} {f : F1} {Q : VK} (hf : ∀ vs G, f vs G = match vs with | [v] => (match (dicOf G v).bind g with | some l => k l G | none => .bad) | _ => .bad) (S : Sim K ι G H) (rs : Reps K ι G.length H vs xs)
    (p : Post K E ι G.length H (f vs G) (fun ι' G' H' w => ∀ z, Rep K ι' G'.length H' w z → Q z H')) : ∃ a ys l b, xs = [.ref a] ∧ Rd H a (.dK ys) ∧ KReps K ι G.length H l ys ∧ g l = some b ∧ Post K E ι G.length H (k b G) (fun ι' G' H' w => ∀ z, Rep K ι' G'.length H' w z → Q z H') := by
  rw [hf] at p
  cases vs with
  | nil => exact p.elim
  | cons v l =>
    cases l with
    | cons _ _ => exact p.elim
    | nil =>
      dsimp only at p
      cases e : dicOf G v with
      | none => rw [e] at p; exact p.elim
      | some l =>
        rw [e] at p
        dsimp only [Option.bind] at p
        cases e2 : g l with
        | none => rw [e2] at p; exact p.elim
        | some b =>
          rw [e2] at p
          obtain ⟨x, rfl, rx⟩ := reps1 rs
          obtain ⟨a, ys, ex, h1, h2⟩ := dicOf_at S rx e
          exact ⟨a, ys, l, b, by rw [ex], h1, h2, e2, p⟩
theorem s_listD {z : Bool} : CallS K E (fun xs H Q => ∃ a kvs, xs = [.ref a] ∧ Rd H a (.dK kvs) ∧ ∀ p, H p = none → Q (.ref p) (L2.upd H p (.lst (kvs.map fun kv => kV kv.1)))) (bListD z) := fun ι G H vs xs Q S rs p => by
  obtain ⟨a, ys, l, b, e, h1, h2, h3, p2⟩ := one_dic (g := some) (k := fun l G => mkL z (l.map fun q => keyV q.1) G) (f := bListD z) (fun vs G => by
    unfold bListD
    rcases vs with _ | ⟨v, _ | ⟨w, l⟩⟩
    · rfl
    · simp only [bind_some]
      cases dicOf G v <;> rfl
    · rfl) S rs p
  cases h3
  exact ⟨a, ys, e, h1, post_mkL S (keys_rep h2) p2⟩
theorem s_sortD : CallS K E (fun xs H Q => ∃ a kvs ks, xs = [.ref a] ∧ Rd H a (.dK kvs) ∧ kvs.map (·.1) = ks.map Sum.inl ∧ ks.length < 64 ∧ ∀ (ys : List Int) (p : Addr), ys.Perm ks → ys.Pairwise (· ≤ ·) → H p = none → Q (.ref p) (L2.upd H p (.lst (ys.map V.int)))) bSortD := fun ι G H vs xs Q S rs p => by
  obtain ⟨a, ys, l, ks, e, h1, h2, h3, p2⟩ := one_dic (g := intKeys) (k := fun l G => if l.length < 64 then .ok (.fro ((sortI l).map .int)) G else .bad) (f := bSortD) (fun vs G => by
    unfold bSortD
    rcases vs with _ | ⟨v, _ | ⟨w, l⟩⟩
    · rfl
    · dsimp only
      cases (dicOf G v).bind intKeys <;> rfl
    · rfl) S rs p
  by_cases hl : ks.length < 64
  · rw [if_pos hl] at p2
    refine ⟨a, ys, ks, e, h1, intKeys_ok h3 h2, hl, fun ns q hp hs hq => ?_⟩
    rw [sortI_uniq hp hs]
    exact post_fro S (ints_reps _) p2 q hq
  · rw [if_neg hl] at p2
    exact p2.elim
end
/-- list(x), sorted(x): of a list or of a dict -/
def bListA (z : Bool) : F1 := orF1 (bList z) (bListD z)
def bSortA : F1 := orF1 bSortL bSortD
end R1
/-! R1m: equality of dicts with flat values; list.count, list.index. -/
namespace R1
open PySem PySem.Spec PyProof.Rows L2
/-- a dict's values as data -/
def dataD (G : Store) : List (Ky × Val) → Option (List (Ky × PyData))
  | [] => some []
  | (k, v) :: l => match toD G dEq v, dataD G l with
    | some d, some r => if d.canLay0 = true then some ((k, d) :: r) else none
    | _, _ => none
def lookD (l : List (Ky × PyData)) (k : Ky) : Option PyData := (l.find? fun kv => decide (kv.1 = k)).map (·.2)
/-- the dicts hold equal values -/
def sameD (l m : List (Ky × PyData)) : Bool := l.length == m.length && l.all fun q => match lookD m q.1 with
  | some e => PyData.eqv q.2 e
  | none => false
def fEqD (neg : Bool) : F2 := fun v u G => match (dicOf G v).bind (dataD G), (dicOf G u).bind (dataD G) with
  | some l, some m => .ok (.bl (neg != sameD l m)) G
  | _, _ => .bad
/-- the pairs on the heap -/
def KDp (K : PySem.W.Frag) (H : Hp) : List (Key × V) → List (Key × PyData) → Prop
  | [], ds => ds = []
  | (k, v) :: r, ds => ∃ d s, ds = (k, d) :: s ∧ Dp K H v d ∧ d.canLay0 = true ∧ d.depth ≤ dEq ∧ KDp K H r s
def lookKD (l : List (Key × PyData)) (k : Key) : Option PyData := (l.find? fun kv => decide (kv.1 = k)).map (·.2)
def sameKD (l m : List (Key × PyData)) : Bool := l.length == m.length && l.all fun q => match lookKD m q.1 with
  | some e => PyData.eqv q.2 e
  | none => false
def rEqDD (K : PySem.W.Frag) (neg : Bool) : R2 := fun x y H Q => ∃ a b ks ls da db, x = .ref a ∧ y = .ref b ∧ Rd H a (.dK ks) ∧ Rd H b (.dK ls) ∧ KDp K H ks da ∧ KDp K H ls db ∧ Q (.bl (neg != sameKD da db)) H
section
variable {X : Cx} {pins : List (Addr × Obj)} {σ : L2.St} {H : Hp} {s : Shared}
theorem kdp_len : ∀ {ks : List (Key × V)} {da : List (Key × PyData)}, KDp X.K H ks da → da.length = ks.length
  | [], _, h => by rw [show _ = [] from h]; rfl
  | (_, _) :: _, _, ⟨d, s, e, _, _, _, h⟩ => by rw [e]; exact congrArg Nat.succ (kdp_len h)
theorem kdp_look {k : Key} : ∀ {ls : List (Key × V)} {db : List (Key × PyData)}, KDp X.K H ls db → (valV ls k = none → lookKD db k = none) ∧ ∀ y, valV ls k = some y → ∃ e, lookKD db k = some e ∧ Dp X.K H y e ∧ e.canLay0 = true ∧ e.depth ≤ dEq
  | [], _, h => by
    rw [show _ = [] from h]
    exact ⟨fun _ => rfl, fun y e => (by cases e)⟩
  | (k0, v) :: r, _, ⟨d, s, e, h1, h2, h3, h4⟩ => by
    rw [e]
    have ih := kdp_look (k := k) h4
    unfold valV lookKD at *
    rw [List.find?_cons, List.find?_cons]
    show (Option.map (·.2) (match decide (k0 = k) with | true => some (k0, v) | false => r.find? _) = none → Option.map (·.2) (match decide (k0 = k) with | true => some (k0, d) | false => s.find? _) = none) ∧ _
    cases decide (k0 = k) with
    | true => exact ⟨fun e => (by cases e), fun y e => (by cases e; exact ⟨d, rfl, h1, h2, h3⟩)⟩
    | false => exact ih
theorem kdp_hits (hu : X.A.units + 64 < cLine) (I : L2.Inv X pins σ H s) {ls : List (Key × V)} {db : List (Key × PyData)} {vb : List (Key × Value)} (hb : KDp X.K H ls db) (rb : KV ls vb) : ∀ {ks : List (Key × V)} {da : List (Key × PyData)} {va : List (Key × Value)}, KDp X.K H ks da → KV ks va →
    PySem.W.KeqHits X.A.in1 s vb va (da.all fun q => match lookKD db q.1 with | some e => PyData.eqv q.2 e | none => false)
  | [], da, va, h, r => by
    rw [show da = [] from h]
    cases r
    exact .nil
  | (k, v) :: ks, da, va, ⟨d, ds, e, h1, h2, h3, h4⟩, r => by
    cases r with
    | cons r1 r2 =>
      rename_i w ws
      obtain ⟨k', w⟩ := w
      obtain ⟨ek, rv⟩ := r1
      dsimp only at ek rv
      subst ek
      rw [e, List.all_cons]
      have l := kdp_look (k := k) hb
      have q := rb.val k
      dsimp only
      cases e2 : valV ls k with
      | none =>
        rw [e2] at q
        rw [l.1 e2, Bool.false_and]
        refine .miss ?_
        cases e3 : valueAt vb k with
        | none => rfl
        | some z => rw [e3] at q; exact absurd q (by intro h; cases h)
      | some y =>
        rw [e2] at q
        obtain ⟨e, e4, g1, g2, g3⟩ := l.2 y e2
        rw [e4]
        cases e3 : valueAt vb k with
        | none => rw [e3] at q; exact absurd q (by intro h; cases h)
        | some z =>
          rw [e3] at q
          have rz : RelV y z := by first | exact q | (cases q; assumption)
          obtain ⟨as, ra⟩ := Dp.reads I d v w h1 rv
          obtain ⟨bs, rb'⟩ := Dp.reads I e y z g1 rz
          have h3' : d.depth ≤ 40 := h3
          have hm : min d.depth e.depth ≤ d.depth := Nat.min_le_left _ _
          exact .hit e3 (SeqAt.eqAt_reads _ _ _ _ _ _ _ _ ra rb' h2 g2 (by show X.A.units + 1 + _ < _; omega)) (kdp_hits hu I hb rb h4 r2)
theorem rd_dic {a : Addr} {ks : List (Key × V)} (I : L2.Inv X pins σ H s) (h : Rd H a (.dK ks)) : (a == sysModules) = false ∧ ∃ vs, KV ks vs ∧ Heap.DictOf (mixKind X.prog X.w) s.heap a vs := by
  rcases h with h | ⟨o, h⟩
  · have q := I.hok a _ h
    simp only [ObjOk] at q
    exact ⟨q.2.1, q.2.2⟩
  · have q := I.hok a _ h
    simp only [ObjOk] at q
    exact ⟨q.2.2.1, q.2.2.2⟩
theorem op_eqDD (hu : X.A.units + 64 < cLine) : OpR X (compareOp .Eq) (rEqDD X.K false) := by
  intro pins s σ H x y v u Q I rx ry ⟨a, b, ks, ls, da, db, ex, ey, h1, h2, h3, h4, q⟩
  subst ex
  subst ey
  rw [show v = .ref a from rx, show u = .ref b from ry]
  obtain ⟨ya, va, ra, ga⟩ := rd_dic I h1
  obtain ⟨yb, vb, rb, gb⟩ := rd_dic I h2
  refine PySem.W.keq_eq ya yb ga gb (by omega) (fun _ => kdp_hits hu I h4 rb h3 ra) (fin_bl I q ?_)
  unfold sameKD
  rw [kdp_len h3, kdp_len h4, ra.length, rb.length, Bool.false_bne]
theorem op_neDD (hu : X.A.units + 64 < cLine) : OpR X (compareOp .NotEq) (rEqDD X.K true) := by
  intro pins s σ H x y v u Q I rx ry ⟨a, b, ks, ls, da, db, ex, ey, h1, h2, h3, h4, q⟩
  subst ex
  subst ey
  rw [show v = .ref a from rx, show u = .ref b from ry]
  obtain ⟨ya, va, ra, ga⟩ := rd_dic I h1
  obtain ⟨yb, vb, rb, gb⟩ := rd_dic I h2
  refine PySem.W.keq_ne ya yb ga gb (by omega) (fun _ => kdp_hits hu I h4 rb h3 ra) (fin_bl I q ?_)
  unfold sameKD
  rw [kdp_len h3, kdp_len h4, ra.length, rb.length, Bool.true_bne]
end
section
variable {K : PySem.W.Frag} {E : XK} {ι : Vw} {n : Nat} {G : Store} {H : Hp}
theorem kdp_of (S : Sim K ι G H) : ∀ {l : List (Ky × Val)} {xs : List (Key × V)} {dl : List (Ky × PyData)}, KReps K ι G.length H l xs → dataD G l = some dl → KDp K H xs (dl.map fun q => (kyOf q.1, q.2))
  | [], xs, dl, r, h => by
    cases h
    rw [show xs = [] from r]
    exact rfl
  | (k, v) :: l, xs, dl, ⟨y, ys, e, r1, r2⟩, h => by
    unfold dataD at h
    cases e1 : toD G dEq v with
    | none => rw [e1] at h; cases h
    | some d =>
      cases e2 : dataD G l with
      | none => rw [e1, e2] at h; cases h
      | some r =>
        rw [e1, e2] at h
        dsimp only at h
        by_cases c : d.canLay0 = true
        · rw [if_pos c] at h
          cases h
          rw [e]
          exact ⟨d, _, rfl, dp_of S _ v y d r1 e1, c, (toD_ok _ v d e1).2, kdp_of S r2 e2⟩
        · rw [if_neg c] at h
          cases h
theorem lookKD_map (k : Ky) : ∀ l : List (Ky × PyData), lookKD (l.map fun q => (kyOf q.1, q.2)) (kyOf k) = lookD l k
  | [] => rfl
  | q :: l => by
    have ih := lookKD_map k l
    unfold lookKD lookD at *
    rw [List.map_cons, List.find?_cons, List.find?_cons]
    show Option.map (·.2) (match decide (kyOf q.1 = kyOf k) with | true => some (kyOf q.1, q.2) | false => _) = Option.map (·.2) (match decide (q.1 = k) with | true => some q | false => _)
    rw [kyOf_dec]
    cases decide (q.1 = k) with
    | true => rfl
    | false => exact ih
theorem sameKD_map (l m : List (Ky × PyData)) : sameKD (l.map fun q => (kyOf q.1, q.2)) (m.map fun q => (kyOf q.1, q.2)) = sameD l m := by
  unfold sameKD sameD
  rw [List.length_map, List.length_map, List.all_map]
  congr 2
  funext q
  show (match lookKD _ (kyOf q.1) with | some e => PyData.eqv q.2 e | none => false) = _
  rw [lookKD_map]
theorem s_eqDD {neg : Bool} : OpS K E (rEqDD K neg) (fEqD neg) := by
  intro ι G H v u x y Q S rx ry p
  unfold fEqD at p
  cases e1 : dicOf G v with
  | none => rw [e1] at p; exact p.elim
  | some l =>
    cases e2 : dicOf G u with
    | none => rw [e1, e2] at p; dsimp only [Option.bind] at p; cases e3 : dataD G l <;> (rw [e3] at p; exact p.elim)
    | some m =>
      rw [e1, e2] at p
      dsimp only [Option.bind] at p
      cases e3 : dataD G l with
      | none => rw [e3] at p; exact p.elim
      | some dl =>
        cases e4 : dataD G m with
        | none => rw [e3, e4] at p; exact p.elim
        | some dm =>
          rw [e3, e4] at p
          obtain ⟨a, xs, ex, h1, r1⟩ := dicOf_at S rx e1
          obtain ⟨b, ys, ey, h2, r2⟩ := dicOf_at S ry e2
          refine ⟨a, b, xs, ys, _, _, ex, ey, h1, h2, kdp_of S r1 e3, kdp_of S r2 e4, ?_⟩
          rw [sameKD_map]
          exact p.here S _ rfl
end
def fEqA : F2 := orF fEq (fEqD false)
def fNeA : F2 := orF fNe (fEqD true)
section
variable {X : Cx} {E : XK} {a b o e : Expr} {ma mb mo me : EM} {pos apos cpos : Pos}
theorem re_eqA (hu : X.A.units + 64 < cLine) (ha : RE X E a ma) (hb : RE X E b mb) : RE X E (.Compare a [.Eq] [b] pos) (eOp fEqA ma mb) := re_cmp ((op_eqP hu).or (op_eqDD hu)) (s_eq.or s_eqDD) ha hb (nomark _)
theorem rt_eqA (hu : X.A.units + 64 < cLine) (ha : RE X E a ma) (hb : RE X E b mb) : RT X E (.Compare a [.Eq] [b] pos) (eTest (eOp fEqA ma mb)) := rt_cmp ((op_eqP hu).or (op_eqDD hu)) (s_eq.or s_eqDD) ha hb (nomark _)
theorem rt_neA (hu : X.A.units + 64 < cLine) (ha : RE X E a ma) (hb : RE X E b mb) : RT X E (.Compare a [.NotEq] [b] pos) (eTest (eOp fNeA ma mb)) := rt_cmp ((op_neP hu).or (op_neDD hu)) (s_ne.or s_eqDD) ha hb (nomark _)
end
end R1
/-! R1n: defs with defaults. -/
namespace R1
open PySem PySem.Spec PyProof.Rows L2
end R1
/-! R1o: a, b = a list. -/
namespace R1
open PySem PySem.Spec PyProof.Rows L2
section
variable {X : Cx} {E : XK} {pos tpos : Pos} {e : Expr} {es : List Expr} {me : EM} {l : List Nat} {kk : Nat}
def tupOf (G : Store) (v : Val) : Option (List Val) := match v with
  | .tup l => some l
  | v => lstOf G v
/-- of a tuple or of a list -/
def sUnA (l : List Nat) (m : EM) : SM := fun ρ G => (m ρ G).toS fun v G1 => match (tupOf G1 v).bind fun vs => setAll l vs ρ with
  | some ρ' => .next ρ' G1
  | none => .bad
end
end R1
/-! R1p: list(range(n)). -/
namespace R1
open PySem PySem.Spec PyProof.Rows L2
end R1
/-! R1q: the rules of comprehensions whose list is never changed. -/
namespace R1
open PySem PySem.Spec PyProof.Rows L2
def eLcFL (z : Bool) (m : EM) (p : Pt) (tt : TM) (te : EM) (own : List Nat) : EM := fun ρ G => (m ρ G).bind fun v G1 => match v with
  | .fro l => if l.length ≤ sizeLine then froR z (lcF p tt te (wipe1 ρ own) l G1) else .bad
  | .obj i => (match G1[i]? with
    | some (.lst l) => if l.length ≤ sizeLine then froR z (lcFob p tt te (wipe1 ρ own) i l 0 G1) else .bad
    | _ => .bad)
  | _ => .bad
def eLcFT (z : Bool) (m : EM) (p : Pt) (tt : TM) (te : EM) (own : List Nat) : EM := fun ρ G => (m ρ G).bind fun v G1 => match v with
  | .tup l => if l.length ≤ sizeLine then froR z (lcF p tt te (wipe1 ρ own) l G1) else .bad
  | _ => .bad
section
variable {X : Cx} {E : XK} {tg iter elt : Expr} {ifs : List Expr} {scope : Scope} {own : List (Str × Nat)} {mi te : EM} {tt : TM} {p : Pt} {pos : Pos} {z : Bool}
theorem lcFL_w {K : PySem.W.Frag} {own : List Nat} (ho : ∀ i ∈ p.slots, i ∈ own) : ∀ σ H Q, tE K E (eLcFL z mi p tt te own) σ H Q → tLc (iList K (tE K E mi)) (tG K p) (tT K E tt) (tE K E te) own σ H Q := fun σ H Q ⟨ι, G, ρ, S, sl, q⟩ => run2 S sl ((Post.bind q).mono fun ι1 G1 H1 v x1 S1 q1 x rx => by
  cases v with
  | fro l =>
    dsimp only at q1
    by_cases hz : l.length ≤ sizeLine
    · rw [if_pos hz] at q1
      obtain ⟨a, xs, ex, h1, h2⟩ := rx
      exact ⟨a, ex, ⟨xs, h1.l⟩, lcF_w ho hz (itf_w h1 h2).1 (itf_w h1 h2).2 S1 (sl.ext x1) q1⟩
    · rw [if_neg hz] at q1
      exact q1.elim
  | obj i =>
    cases e : G1[i]? with
    | none => simp only [e] at q1; exact q1.elim
    | some o =>
      simp only [e] at q1
      cases o with
      | lst l =>
        dsimp only at q1
        by_cases hz : l.length ≤ sizeLine
        · rw [if_pos hz] at q1
          obtain ⟨xs, h1, h2⟩ := S1.lst e
          exact ⟨ι1 i, rx.2, ⟨xs, .of h1⟩, lcFob_w ho hz rx.1 S1 (sl.ext x1) q1⟩
        · rw [if_neg hz] at q1
          exact q1.elim
      | _ => exact q1.elim
  | _ => exact q1.elim)
theorem lcFT_w {K : PySem.W.Frag} {own : List Nat} (ho : ∀ i ∈ p.slots, i ∈ own) : ∀ σ H Q, tE K E (eLcFT z mi p tt te own) σ H Q → tLc (iTup K (tE K E mi)) (tG K p) (tT K E tt) (tE K E te) own σ H Q := fun σ H Q ⟨ι, G, ρ, S, sl, q⟩ => run2 S sl ((Post.bind q).mono fun ι1 G1 H1 v x1 S1 q1 x rx => by
  cases v with
  | tup l =>
    dsimp only at q1
    by_cases hz : l.length ≤ sizeLine
    · rw [if_pos hz] at q1
      obtain ⟨a, xs, ex, h1, h2⟩ := rx
      exact ⟨a, ex, ⟨xs, h1⟩, lcF_w ho hz (itt_w h1 h2).1 (itt_w h1 h2).2 S1 (sl.ext x1) q1⟩
    · rw [if_neg hz] at q1
      exact q1.elim
  | _ => exact q1.elim)
theorem lcFR1_w {K : PySem.W.Frag} {ma : AM} {own : List Nat} (ho : ∀ i ∈ p.slots, i ∈ own) : ∀ σ H Q, tE K E (eLcFR z rng1 ma p tt te own) σ H Q → tLc (iRng1 (tA K E ma)) (tG K p) (tT K E tt) (tE K E te) own σ H Q := fun σ H Q ⟨ι, G, ρ, S, sl, q⟩ => ⟨ι, G, ρ, S, sl, (Post.bind q).mono fun ι1 G1 H1 vs x1 S1 q1 xs rxs => by
  cases e : rng1 vs with
  | none => rw [e] at q1; exact q1.elim
  | some l =>
    rw [e] at q1
    dsimp only at q1
    by_cases hz : l.length ≤ sizeLine
    · rw [if_pos hz] at q1
      obtain ⟨j, e1, h1, h2, rfl⟩ := rng1_inv rxs e
      exact ⟨j, e1, h1, h2, lcF_w ho hz itr_w.1 itr_w.2 S1 (sl.ext x1) q1⟩
    · rw [if_neg hz] at q1
      exact q1.elim⟩
theorem lcFR2_w {K : PySem.W.Frag} {ma : AM} {own : List Nat} (ho : ∀ i ∈ p.slots, i ∈ own) : ∀ σ H Q, tE K E (eLcFR z rng2 ma p tt te own) σ H Q → tLc (iRng2 (tA K E ma)) (tG K p) (tT K E tt) (tE K E te) own σ H Q := fun σ H Q ⟨ι, G, ρ, S, sl, q⟩ => ⟨ι, G, ρ, S, sl, (Post.bind q).mono fun ι1 G1 H1 vs x1 S1 q1 xs rxs => by
  cases e : rng2 vs with
  | none => rw [e] at q1; exact q1.elim
  | some l =>
    rw [e] at q1
    dsimp only at q1
    by_cases hz : l.length ≤ sizeLine
    · rw [if_pos hz] at q1
      obtain ⟨i, j, e1, h1, rfl⟩ := rng2_inv rxs e
      exact ⟨i, j, e1, h1, lcF_w ho hz itr_w.1 itr_w.2 S1 (sl.ext x1) q1⟩
    · rw [if_neg hz] at q1
      exact q1.elim⟩
theorem lcF_eq (ρ : Env1) (G : Store) (own : List Nat) : eLcF z mi p tt te own ρ G = eLcFL z mi p tt te own ρ G ∨ eLcF z mi p tt te own ρ G = eLcFT z mi p tt te own ρ G := by
  unfold eLcF eLcFL eLcFT
  cases mi ρ G with
  | ok v G1 => cases v <;> first | exact .inl rfl | exact .inr rfl
  | _ => exact .inl rfl
/-- a comprehension's rule from what its walk asks -/
theorem re_lcW {wi : TI} {m : EM} (hc : X.calm = true) (hN : X.N.Nodup) (hi : PI X tg iter wi) (ok : BlkOk X.N X.env.scope scope own)
    (hg : ∀ s H C cl fp, RG (Blk X scope s H C cl fp) tg p) (ht : ∀ s H C cl fp, PTs (Blk X scope s H C cl fp) ifs (tT X.K E tt)) (he : ∀ s H C cl fp, RE (Blk X scope s H C cl fp) E elt te)
    (w : ∀ σ H Q, tE X.K E m σ H Q → tLc wi (tG X.K p) (tT X.K E tt) (tE X.K E te) (own.map (·.2)) σ H Q) (hs : ∀ x, foldedSetIterable iter X.env x = pure x := by intro _; rfl) : RE X E (.ListComp elt [⟨tg, iter, ifs, 0⟩] scope pos) m :=
  pe_weak (pe_lc (g := tG X.K p) (tt := tT X.K E tt) (te := tE X.K E te) hc hN hi ok hg ht he hs) w
theorem re_lcFA (hc : X.calm = true) (hN : X.N.Nodup) (hi : RE X E iter mi) (ok : BlkOk X.N X.env.scope scope own) (ho : ∀ i ∈ p.slots, i ∈ own.map (·.2))
    (hg : ∀ s H C cl fp, RG (Blk X scope s H C cl fp) tg p) (ht : ∀ s H C cl fp, PTs (Blk X scope s H C cl fp) ifs (tT X.K E tt)) (he : ∀ s H C cl fp, RE (Blk X scope s H C cl fp) E elt te)
    (hs : ∀ x, foldedSetIterable iter X.env x = pure x := by intro _; rfl) : RE X E (.ListComp elt [⟨tg, iter, ifs, 0⟩] scope pos) (eLcF z mi p tt te (own.map (·.2))) :=
  re_sel (re_lcW hc hN (pi_list hi) ok hg ht he (lcFL_w ho) hs) (re_lcW hc hN (pi_tup hi) ok hg ht he (lcFT_w ho) hs) fun ρ G => lcF_eq ρ G _
theorem re_lcFR1 {a : Expr} {ma : AM} {pr pos' : Pos} (hc : X.calm = true) (hN : X.N.Nodup) (hgl : Gl X "range") (hm : X.mg "range" = none) (ha : RA X E [a] ma) (ok : BlkOk X.N X.env.scope scope own) (ho : ∀ i ∈ p.slots, i ∈ own.map (·.2))
    (hg : ∀ s H C cl fp, RG (Blk X scope s H C cl fp) tg p) (ht : ∀ s H C cl fp, PTs (Blk X scope s H C cl fp) ifs (tT X.K E tt)) (he : ∀ s H C cl fp, RE (Blk X scope s H C cl fp) E elt te)
    (hs1 : starEach [a] X.env = [(false, eval a X.env)] := by rfl) (hs : ∀ x, foldedSetIterable (.Call (.Name "range" pr) [a] [] pos') X.env x = pure x := by intro _; rfl) :
    RE X E (.ListComp elt [⟨tg, .Call (.Name "range" pr) [a] [] pos', ifs, 0⟩] scope pos) (eLcFR z rng1 ma p tt te (own.map (·.2))) :=
  re_lcW hc hN (pi_range1 hgl hm ha hs1) ok hg ht he (lcFR1_w ho) hs
theorem rs_setLcFA {i : Nat} {y : Str} {py spos : Pos} (hc : X.calm = true) (hN : X.N.Nodup) (hy : X.N[i]? = some y) (hyl : X.env.scope.names.lookup y = some .local)
    (hsw : swapsWith (.ListComp elt [⟨tg, iter, ifs, 0⟩] scope pos) (some (.Name y py)) spos.line X.env = pure true) (hi : RE X E iter mi) (ok : BlkOk X.N X.env.scope scope own) (ho : ∀ i ∈ p.slots, i ∈ own.map (·.2))
    (hg : ∀ s H C cl fp, RG (Blk X scope s H C cl fp) tg p) (ht : ∀ s H C cl fp, PTs (Blk X scope s H C cl fp) ifs (tT X.K E tt)) (he : ∀ s H C cl fp, RE (Blk X scope s H C cl fp) E elt te)
    (hs : ∀ x, foldedSetIterable iter X.env x = pure x := by intro _; rfl) : RS X E (.Assign [.Name y py] (.ListComp elt [⟨tg, iter, ifs, 0⟩] scope pos) spos) (sSet i (eLcF z mi p tt te (own.map (·.2)))) :=
  rs_sel (rs_setLc hc hN hy hyl hsw (pi_list hi) ok hg ht he (lcFL_w ho) hs) (rs_setLc hc hN hy hyl hsw (pi_tup hi) ok hg ht he (lcFT_w ho) hs) fun ρ G => by
    unfold sSet
    rcases lcF_eq (z := z) (mi := mi) (p := p) (tt := tt) (te := te) ρ G (own.map (·.2)) with e | e
    · exact .inl (by rw [e])
    · exact .inr (by rw [e])
theorem rs_setLcFR1 {i : Nat} {y : Str} {a : Expr} {ma : AM} {py spos pr pos' : Pos} (hc : X.calm = true) (hN : X.N.Nodup) (hy : X.N[i]? = some y) (hyl : X.env.scope.names.lookup y = some .local)
    (hsw : swapsWith (.ListComp elt [⟨tg, .Call (.Name "range" pr) [a] [] pos', ifs, 0⟩] scope pos) (some (.Name y py)) spos.line X.env = pure true) (hgl : Gl X "range") (hm : X.mg "range" = none) (ha : RA X E [a] ma) (ok : BlkOk X.N X.env.scope scope own) (ho : ∀ i ∈ p.slots, i ∈ own.map (·.2))
    (hg : ∀ s H C cl fp, RG (Blk X scope s H C cl fp) tg p) (ht : ∀ s H C cl fp, PTs (Blk X scope s H C cl fp) ifs (tT X.K E tt)) (he : ∀ s H C cl fp, RE (Blk X scope s H C cl fp) E elt te)
    (hs1 : starEach [a] X.env = [(false, eval a X.env)] := by rfl) (hs : ∀ x, foldedSetIterable (.Call (.Name "range" pr) [a] [] pos') X.env x = pure x := by intro _; rfl) :
    RS X E (.Assign [.Name y py] (.ListComp elt [⟨tg, .Call (.Name "range" pr) [a] [] pos', ifs, 0⟩] scope pos) spos) (sSet i (eLcFR z rng1 ma p tt te (own.map (·.2)))) :=
  rs_setLc hc hN hy hyl hsw (pi_range1 hgl hm ha hs1) ok hg ht he (lcFR1_w ho) hs
theorem rs_setLcFR2 {i : Nat} {y : Str} {a c : Expr} {ma : AM} {py spos pr pos' : Pos} (hc : X.calm = true) (hN : X.N.Nodup) (hy : X.N[i]? = some y) (hyl : X.env.scope.names.lookup y = some .local)
    (hsw : swapsWith (.ListComp elt [⟨tg, .Call (.Name "range" pr) [a, c] [] pos', ifs, 0⟩] scope pos) (some (.Name y py)) spos.line X.env = pure true) (hgl : Gl X "range") (hm : X.mg "range" = none) (ha : RA X E [a, c] ma) (ok : BlkOk X.N X.env.scope scope own) (ho : ∀ i ∈ p.slots, i ∈ own.map (·.2))
    (hg : ∀ s H C cl fp, RG (Blk X scope s H C cl fp) tg p) (ht : ∀ s H C cl fp, PTs (Blk X scope s H C cl fp) ifs (tT X.K E tt)) (he : ∀ s H C cl fp, RE (Blk X scope s H C cl fp) E elt te)
    (hs1 : starEach [a, c] X.env = [(false, eval a X.env), (false, eval c X.env)] := by rfl) (hs2 : starEach [c] X.env = [(false, eval c X.env)] := by rfl) (hs : ∀ x, foldedSetIterable (.Call (.Name "range" pr) [a, c] [] pos') X.env x = pure x := by intro _; rfl) :
    RS X E (.Assign [.Name y py] (.ListComp elt [⟨tg, .Call (.Name "range" pr) [a, c] [] pos', ifs, 0⟩] scope pos) spos) (sSet i (eLcFR z rng2 ma p tt te (own.map (·.2)))) :=
  rs_setLc hc hN hy hyl hsw (pi_range2 hgl hm ha hs1 hs2) ok hg ht he (lcFR2_w ho) hs
end
end R1
/-! R1r: constants of the module, a head with facts of one's own. -/
namespace R1
open PySem PySem.Spec PyProof.Rows L2
/-! ### constants of the module -/
mutual
def datB (K : PySem.W.Frag) : Val → Value → Bool
  | .non, .none => true
  | .bl b, .bool c => b == c
  | .int i, .int j _ => decide (i = j)
  | .str k, .str s _ => decide (nm k = s)
  | .tup l, .ref a => (match K.lookup a with
    | some o => (match o.cls, o.data with
      | .type c, .seq its _ => decide (c = "tuple") && decide (its.size ≤ sizeLine) && datL K l its.toList
      | _, _ => false)
    | none => false)
  | _, _ => false
def datL (K : PySem.W.Frag) : List Val → List Value → Bool
  | [], [] => true
  | v :: l, u :: r => datB K v u && datL K l r
  | _, _ => false
end
section
variable {K : PySem.W.Frag} {ι : Vw} {n : Nat} {H : Hp}
mutual
theorem datB_ok : ∀ {v : Val} {u : Value}, datB K v u = true → ∃ x, RelV x u ∧ Rep K ι n H v x
  | .non, u, h => by
    cases u <;> first | cases h | skip
    exact ⟨.non, rfl, rfl⟩
  | .bl b, u, h => by
    cases u <;> first | cases h | skip
    rename_i c
    have e : b = c := by simpa [datB] using h
    subst e
    exact ⟨.bl b, rfl, rfl⟩
  | .int i, u, h => by
    cases u <;> first | cases h | skip
    rename_i j t
    have e : i = j := by simpa [datB] using h
    subst e
    exact ⟨.int i, ⟨t, rfl⟩, rfl⟩
  | .str k, u, h => by
    cases u <;> first | cases h | skip
    rename_i s t
    have e : nm k = s := by simpa [datB] using h
    subst e
    exact ⟨.str (nm k), ⟨t, rfl⟩, rfl⟩
  | .tup l, u, h => by
    cases u with
    | ref a =>
      have h0 : (match K.lookup a with
        | some o => (match o.cls, o.data with
          | .type c, .seq its _ => decide (c = "tuple") && decide (its.size ≤ sizeLine) && datL K l its.toList
          | _, _ => false)
        | none => false) = true := by simpa only [datB] using h
      cases e : K.lookup a with
      | none => rw [e] at h0; cases h0
      | some o =>
        rw [e] at h0
        obtain ⟨c, d, dt, sl⟩ := o
        cases c <;> first | cases h0 | skip
        cases dt <;> first | cases h0 | skip
        rename_i c its m
        have h1 : (decide (c = "tuple") && decide (its.size ≤ sizeLine) && datL K l its.toList) = true := h0
        obtain ⟨h2, h3⟩ := Bool.and_eq_true_iff.mp h1
        obtain ⟨h4, h5⟩ := Bool.and_eq_true_iff.mp h2
        obtain ⟨xs, r1, r2⟩ := datL_ok h3
        have ec : c = "tuple" := of_decide_eq_true h4
        subst ec
        exact ⟨.ref a, rfl, a, xs, rfl, .inr ⟨_, its, m, e, rfl, rfl, of_decide_eq_true h5, r1⟩, r2⟩
    | _ => cases h
  | .fro l, u, h => by cases u <;> cases h
  | .scr l, u, h => by cases u <;> cases h
  | .frd l, u, h => by cases u <;> cases h
  | .obj i, u, h => by cases u <;> cases h
theorem datL_ok : ∀ {l : List Val} {us : List Value}, datL K l us = true → ∃ xs, Vals xs us ∧ Reps K ι n H l xs
  | [], us, h => by
    cases us with
    | nil => exact ⟨[], .nil, rfl⟩
    | cons _ _ => cases h
  | v :: l, us, h => by
    cases us with
    | nil => cases h
    | cons u r =>
      obtain ⟨h1, h2⟩ := Bool.and_eq_true_iff.mp (show (datB K v u && datL K l r) = true from h)
      obtain ⟨x, a1, a2⟩ := datB_ok h1
      obtain ⟨xs, b1, b2⟩ := datL_ok h2
      exact ⟨x :: xs, .cons a1 b1, x, xs, rfl, a2, b2⟩
end
end
theorem relV_inj {x y : V} {u : Value} (h : RelV x u) (k : RelV y u) : x = y := by
  cases x with
  | int i =>
    obtain ⟨t, rfl⟩ := h
    cases y <;> first | (obtain ⟨t', e⟩ := k; cases e <;> rfl) | cases k
  | str i =>
    obtain ⟨t, rfl⟩ := h
    cases y <;> first | (obtain ⟨t', e⟩ := k; cases e <;> rfl) | cases k
  | byt i =>
    obtain ⟨t, rfl⟩ := h
    cases y <;> first | (obtain ⟨t', e⟩ := k; cases e <;> rfl) | cases k
  | flt i =>
    obtain ⟨t, rfl⟩ := h
    cases y <;> first | (obtain ⟨t', e⟩ := k; cases e <;> rfl) | cases k
  | _ =>
    cases h
    cases y <;> first | (obtain ⟨t', e⟩ := k; cases e <;> rfl) | (cases k; rfl) | cases k
/-! ### a head with facts of one's own -/
def obsX (fa : List He.Fa) (fn : List He.DefD) (fx : List (PySem.W.Frag → Bool)) (ts : List He.Tab) (K : PySem.W.Frag) : Bool × He.AlT := (fx.all fun f => f K, He.obsT fa fn ts K)
def obsXG (n : Nat) (fa : List He.Fa) (fn : List He.DefD) (fx : List (PySem.W.Frag → Bool)) (ts : List He.Tab) (g : Addr → Option Obj) : Bool × He.AlT := obsX fa fn fx ts (He.frG g (He.asD g n))
def SaysX (fa : List He.Fa) (fn : List He.DefD) (fx : List (PySem.W.Frag → Bool)) (ts : List He.Tab) (w : World) (K : PySem.W.Frag) : Prop := He.SaysT fa fn ts w K ∧ ∀ f ∈ fx, f K = true
def hookX (n : Nat) (fa : List He.Fa) (fn : List He.DefD) (fx : List (PySem.W.Frag → Bool)) (ts : List He.Tab) : PySem.W.Hook where
  α := Bool × He.AlT
  obs := fun s => obsXG n fa fn fx ts s.heap.get?
  val := fun w => (true, He.valT fn ts w)
  says := fun w h => ∃ K, K.In h ∧ SaysX fa fn fx ts w K
  of := fun _ s e => ⟨He.frG s.heap.get? (He.asD s.heap.get? n), He.frG_in, congrArg Prod.snd e, fun f hf => List.all_eq_true.mp (congrArg Prod.fst e) f hf⟩
  keeps := fun _ _ _ ⟨K, h1, h2⟩ hk => ⟨K, fun a o e => hk a o (h1 a o e), h2⟩
theorem obsXG_eq {n : Nat} {fa : List He.Fa} {fn : List He.DefD} {fx : List (PySem.W.Frag → Bool)} {ts : List He.Tab} {g : Addr → Option Obj} {s : Shared} (h : ∀ a, g a = s.heap.get? a) : obsXG n fa fn fx ts g = (hookX n fa fn fx ts).obs s := by
  have e : g = s.heap.get? := funext h
  rw [e]
  rfl
theorem txt_of {fa : List He.Fa} {fn : List He.DefD} {fx : List (PySem.W.Frag → Bool)} {ts : List He.Tab} {w : World} {K : PySem.W.Frag} {mg : Str → Option Value} {h : Heap} (c : SaysX fa fn fx ts w K) (KX : K.In h) (G : h.Ns mainGlobals mg) : Txt fa fn fx ts w K mg :=
  ⟨c.2, congrArg Prod.fst c.1, fun i _ e => He.SaysT.tab c.1 i e, h, KX, G⟩
end R1
namespace R1
open PySem PySem.Spec PyProof.Rows L2
end R1
/-! R1s: dict comprehensions; walks over dicts. -/
namespace R1
open PySem PySem.Spec PyProof.Rows L2
/-! ### walks over a locked dict -/
section
variable {K : PySem.W.Frag} {E : XK} {ι ι' : Vw} {n n' : Nat} {H H' : Hp}
def keysD (l : List (Ky × Val)) : List Val := l.map fun q => keyV q.1
end
/-! ### for k in d -/
end R1
/-! R1u: dict comprehensions; comprehensions over a dict's keys. -/
namespace R1
open PySem PySem.Spec PyProof.Rows L2
def frdR (z : Bool) (r : Res (List (Ky × Val))) : Res Val := r.bind fun l G => mkD z l G
/-! ### over a dict with a name -/
end R1
/-! R1w: sorted(xs), xs a list of tuples of ints. -/
namespace R1
open PySem PySem.Spec PyProof.Rows L2
/-- tuples of n + 1 ints -/
def asTups (n : Nat) : List Val → Option (List (List Int))
  | [] => some []
  | .tup l :: r => (match asInts l, asTups n r with
    | some ns, some s => if ns.length = n + 1 then some (ns :: s) else none
    | _, _ => none)
  | _ :: _ => none
def leT (a b : List Int) : Bool := decide (a ≤ b)
def sortT (l : List (List Int)) : List (List Int) := l.mergeSort leT
def tupI (l : List Int) : Val := .tup (l.map .int)
def firstLen : List Val → Nat
  | .tup l :: _ => l.length - 1
  | _ => 0
def bSortT : F1 := fun vs G => match vs with
  | [v] => (match (lstOf G v).bind fun l => asTups (firstLen l) l with
    | some ns => if ns.length ≤ sizeLine then .ok (.fro ((sortT ns).map tupI)) G else .bad
    | none => .bad)
  | _ => .bad
def rSortT (K : PySem.W.Frag) : List V → Hp → VK → Prop := fun vs H Q => ∃ (a : Addr) (bs : List (V × List Int)) (n : Nat), vs = [.ref a] ∧ SqL K H a (bs.map (·.1)) ∧ (∀ b ∈ bs, Dp K H b.1 (.tuple (b.2.map PyData.int)) ∧ b.2.length = n + 1) ∧ bs.length ≤ sizeLine ∧
  ∀ p, H p = none → Q (.ref p) (L2.upd H p (.lst ((bs.mergeSort fun x y => leT x.2 y.2).map (·.1))))
theorem alike_ints : ∀ (a b : List Int), a.length = b.length → PySem.W.alikeAll (a.map PyData.int) (b.map PyData.int) = true
  | [], [], _ => rfl
  | [], _ :: _, h => by cases h
  | _ :: _, [], h => by cases h
  | a :: as, b :: bs, h => by
    have ih := alike_ints as bs (Nat.succ.inj h)
    simp [PySem.W.alikeAll, PySem.W.alike, ih]
theorem depth_ints (l : List Int) : (PyData.tuple (l.map PyData.int)).depth ≤ 1 := by
  have h : PyData.depthAll (l.map PyData.int) ≤ 0 := depth_all _ _ fun d hd => by
    obtain ⟨i, _, rfl⟩ := List.mem_map.mp hd
    exact Nat.le_refl _
  show PyData.depthAll (l.map PyData.int) + 1 ≤ 1
  omega
theorem dataLe_tups {β : Type} (x : β → List Int) : (PySem.W.dataLe false fun b => PyData.tuple ((x b).map PyData.int)) = fun p q => leT (x p) (x q) := by
  have h := PySem.W.dataLe_rows x
  exact h
theorem each_vals {K : PySem.W.Frag} {H : Hp} : ∀ {bs : List (V × List Int)} {us : List Value}, Vals (bs.map (·.1)) us → PySem.W.EachIs (fun (u : Value) (b : V × List Int) => L2.RelV b.1 u) us bs
  | [], us, h => by cases h; exact .nil
  | b :: bs, us, h => by
    cases h with
    | cons r h => exact .cons r (each_vals (K := K) (H := H) h)
theorem vals_each : ∀ {bs : List (V × List Int)} {us : List Value}, PySem.W.EachIs (fun (u : Value) (b : V × List Int) => L2.RelV b.1 u) us bs → Vals (bs.map (·.1)) us
  | [], us, h => by cases h; exact .nil
  | b :: bs, us, h => by
    cases h with
    | cons r h => exact .cons r (vals_each h)
theorem each_reads {X : Cx} {pins : List (Addr × Obj)} {σ : L2.St} {H : Hp} {s : Shared} (I : L2.Inv X pins σ H s) : ∀ {bs : List (V × List Int)} {us : List Value}, (∀ b ∈ bs, Dp X.K H b.1 (.tuple (b.2.map PyData.int))) → PySem.W.EachIs (fun (u : Value) (b : V × List Int) => L2.RelV b.1 u) us bs →
    PySem.W.EachIs (fun (u : Value) (b : V × List Int) => ∃ as, Reads s.heap u (.tuple (b.2.map PyData.int)) as) us bs
  | [], us, _, h => by cases h; exact .nil
  | b :: bs, us, hd, h => by
    cases h with
    | cons r h => exact .cons (Dp.reads I _ _ _ (hd b (List.mem_cons_self ..)) r) (each_reads I (fun c hc => hd c (List.mem_cons_of_mem _ hc)) h)
theorem cr_sortT {X : Cx} (hu : X.A.units + 64 < cLine) : CallR X (.builtin "sorted") (rSortT X.K) := by
  intro pins s σ H vs us Q I r ⟨a, bs, n, e, hs, hd, hz, q⟩
  subst e
  obtain ⟨its, rv, hl, hz'⟩ := Inv.list I hs
  rw [r.ref1]
  have ev := each_vals (K := X.K) (H := H) rv
  refine PySem.W.sorted_data (bs := bs) (enc := fun b => .tuple (b.2.map PyData.int)) (R := fun u b => L2.RelV b.1 u) hl.isList ev (each_reads I (fun b hb => (hd b hb).1) ev) ?_ ?_ hz ?_ fun out h1 h2 => ?_
  · intro d hd1 d' hd2
    obtain ⟨b, hb, rfl⟩ := List.mem_map.mp hd1
    obtain ⟨c, hc, rfl⟩ := List.mem_map.mp hd2
    exact alike_ints _ _ ((hd b hb).2.trans (hd c hc).2.symm)
  · refine .inl fun d hd1 => ?_
    obtain ⟨b, hb, rfl⟩ := List.mem_map.mp hd1
    have hl := (hd b hb).2
    cases e : b.2 with
    | nil => rw [e] at hl; cases hl
    | cons x r => exact ⟨.int x, r.map PyData.int, rfl⟩
  · intro b _
    have := depth_ints b.2
    omega
  · rw [dataLe_tups] at h2
    obtain ⟨ep, he⟩ := PyProof.Rows.sortedAll_at s.heap its out.toArray
    have rv2 := vals_each h2
    refine ⟨.ref (s.heap.objs.size + 1), _, Inv.laid (o := .lst ((bs.mergeSort fun x y => leT x.2 y.2).map (·.1))) I (fun _ _ => PyProof.Rows.sortedAll_old) (Nat.le_succ _) ⟨?_, out, ep, rv2, he⟩, rfl, q _ (HOk.fresh I.hok (Nat.le_succ _))⟩
    rw [List.length_map, List.length_mergeSort]
    exact hz
section
variable {K : PySem.W.Frag} {E : XK} {ι : Vw} {n : Nat} {G : Store} {H : Hp}
theorem toD_intsT (k : Nat) : ∀ {l : List Val} {ns : List Int}, asInts l = some ns → optAll (toD G k) l = some (ns.map PyData.int)
  | [], ns, h => by cases h; rfl
  | v :: l, ns, h => by
    cases v with
    | int i =>
      have h0 : (asInts l).map (i :: ·) = some ns := h
      cases e : asInts l with
      | none => rw [e] at h0; cases h0
      | some ms =>
        rw [e] at h0
        cases h0
        have e1 : toD G k (Val.int i) = some (.int i) := by cases k <;> rfl
        unfold optAll
        rw [e1, toD_intsT k e]
        rfl
    | _ => cases h
theorem asInts_eq : ∀ {l : List Val} {ns : List Int}, asInts l = some ns → l = ns.map Val.int
  | [], ns, h => by cases h; rfl
  | v :: l, ns, h => by
    cases v with
    | int i =>
      have h0 : (asInts l).map (i :: ·) = some ns := h
      cases e : asInts l with
      | none => rw [e] at h0; cases h0
      | some ms =>
        rw [e] at h0
        cases h0
        rw [asInts_eq e]
        rfl
    | _ => cases h
/-- the list's tuples on the heap, with what they hold -/
theorem tups_at (S : Sim K ι G H) : ∀ {l : List Val} {xs : List V} {ns : List (List Int)}, asTups n l = some ns → Reps K ι G.length H l xs → ∃ bs : List (V × List Int), bs.map (·.1) = xs ∧ bs.map (·.2) = ns ∧ ∀ b ∈ bs, Dp K H b.1 (.tuple (b.2.map PyData.int)) ∧ b.2.length = n + 1 ∧ Rep K ι G.length H (tupI b.2) b.1
  | [], xs, ns, h, r => by
    cases h
    rw [show xs = [] from r]
    exact ⟨[], rfl, rfl, fun b hb => (by cases hb)⟩
  | v :: l, xs, ns, h, ⟨y, ys, e, r1, r2⟩ => by
    cases v with
    | tup m =>
      unfold asTups at h
      cases e1 : asInts m with
      | none => rw [e1] at h; cases h
      | some ms =>
        cases e2 : asTups n l with
        | none => rw [e1, e2] at h; cases h
        | some s =>
          rw [e1, e2] at h
          dsimp only at h
          by_cases hl : ms.length = n + 1
          · rw [if_pos hl] at h
            cases h
            obtain ⟨bs, h1, h2, h3⟩ := tups_at S e2 r2
            rw [e]
            refine ⟨(y, ms) :: bs, by rw [List.map_cons, h1], by rw [List.map_cons, h2], fun b hb => ?_⟩
            rcases List.mem_cons.mp hb with rfl | hb
            · refine ⟨dp_of S dEq (.tup m) y _ r1 ?_, hl, ?_⟩
              · show (optAll (toD G 39) m).map PyData.tuple = _
                rw [toD_intsT _ e1]
                rfl
              · unfold tupI
                rw [← asInts_eq e1]
                exact r1
            · exact h3 b hb
          · rw [if_neg hl] at h
            cases h
    | _ => cases h
theorem tups_reps : ∀ {bs : List (V × List Int)}, (∀ b ∈ bs, Rep K ι n H (tupI b.2) b.1) → Reps K ι n H ((bs.map (·.2)).map tupI) (bs.map (·.1))
  | [], _ => rfl
  | b :: bs, h => ⟨b.1, bs.map (·.1), rfl, h b (List.mem_cons_self ..), tups_reps fun c hc => h c (List.mem_cons_of_mem _ hc)⟩
theorem s_sortT : CallS K E (rSortT K) bSortT := fun ι G H vs xs Q S rs p => by
  unfold bSortT at p
  cases vs with
  | nil => exact p.elim
  | cons v l =>
    cases l with
    | cons _ _ => exact p.elim
    | nil =>
      dsimp only at p
      cases e : lstOf G v with
      | none => rw [e] at p; exact p.elim
      | some l =>
        rw [e] at p
        dsimp only [Option.bind] at p
        cases e2 : asTups (firstLen l) l with
        | none => rw [e2] at p; exact p.elim
        | some ns =>
          rw [e2] at p
          dsimp only at p
          by_cases hz : ns.length ≤ sizeLine
          · rw [if_pos hz] at p
            obtain ⟨x, rfl, rx⟩ := reps1 rs
            obtain ⟨a, ys, ex, h1, h2⟩ := lstOf_at S rx e
            obtain ⟨bs, b1, b2, b3⟩ := tups_at S e2 h2
            refine ⟨a, bs, firstLen l, by rw [ex], by rw [b1]; exact .of h1, fun b hb => ⟨(b3 b hb).1, (b3 b hb).2.1⟩, by rw [← b2, List.length_map] at hz; exact hz, ?_⟩
            refine post_fro (l := (sortT ns).map tupI) S ?_ p
            have e3 : sortT ns = (bs.mergeSort fun x y => leT x.2 y.2).map (·.2) := by
              unfold sortT
              rw [← b2]
              exact (List.map_mergeSort (r := fun x y : V × List Int => leT x.2 y.2) (s := leT) (f := fun b : V × List Int => b.2) (fun _ _ _ _ => rfl)).symm
            rw [e3]
            exact tups_reps fun b hb => (b3 b (List.mem_mergeSort.mp hb)).2.2
          · rw [if_neg hz] at p
            exact p.elim
end
/-- sorted: of ints, of a dict's int keys, of tuples of ints -/
def bSortX : F1 := orF1 bSortA bSortT
end R1
/-! R1x: what printed proofs name besides. -/
namespace R1
open PySem PySem.Spec PyProof.Rows L2
end R1
/-! R1y: sorted(d.items()), d a dict with int keys and int values. -/
namespace R1
open PySem PySem.Spec PyProof.Rows L2
end R1
/-! R1z: a dict of the module, its keys texts: in, not in, [..], get. -/
namespace R1
open PySem PySem.Spec PyProof.Rows L2
/-- the module's dict x: what stands at the words below N -/
def dctF (x : Str) (l : List (Nat × Val)) (N : Nat) : PySem.W.Frag → Bool := fun K => (List.range N).all fun k => match PySem.W.nsIn K (He.ga K x) (nm k), l.lookup k with
  | some (some u), some v => datB K v u
  | some none, none => true
  | _, _ => false
theorem dctF_at {K : PySem.W.Frag} {x : Str} {l : List (Nat × Val)} {N k : Nat} (h : dctF x l N K = true) (hk : k < N) : (∃ u v, PySem.W.nsIn K (He.ga K x) (nm k) = some (some u) ∧ l.lookup k = some v ∧ datB K v u = true) ∨ (PySem.W.nsIn K (He.ga K x) (nm k) = some none ∧ l.lookup k = none) := by
  unfold dctF at h
  have h1 := List.all_eq_true.mp h k (List.mem_range.mpr hk)
  cases e1 : PySem.W.nsIn K (He.ga K x) (nm k) with
  | none => rw [e1] at h1; cases h1
  | some o =>
    rw [e1] at h1
    cases o with
    | none =>
      cases e2 : l.lookup k with
      | none => exact .inr ⟨rfl, rfl⟩
      | some v => rw [e2] at h1; cases h1
    | some u =>
      cases e2 : l.lookup k with
      | none => rw [e2] at h1; cases h1
      | some v => rw [e2] at h1; exact .inl ⟨u, v, rfl, rfl, h1⟩
def eKin (neg : Bool) (l : List (Nat × Val)) (N : Nat) (m : EM) : EM := fun ρ G => (m ρ G).bind fun v G1 => match v with
  | .str k => if k < N then .ok (.bl (neg != (l.lookup k).isSome)) G1 else .bad
  | _ => .bad
def eKix (l : List (Nat × Val)) (N : Nat) (m : EM) : EM := fun ρ G => (m ρ G).bind fun v G1 => match v with
  | .str k => if k < N then (match l.lookup k with
    | some v => .ok v G1
    | none => .bad) else .bad
  | _ => .bad
def eKget (l : List (Nat × Val)) (N : Nat) (m : EM) : EM := fun ρ G => (m ρ G).bind fun v G1 => match v with
  | .str k => if k < N then .ok ((l.lookup k).getD .non) G1 else .bad
  | _ => .bad
theorem datB_val {K : PySem.W.Frag} {v : Val} {u : Value} (h : datB K v u = true) : ∃ x, RelV x u ∧ ∀ (ι : Vw) (n : Nat) (H : Hp), Rep K ι n H v x := by
  obtain ⟨x0, r0, _⟩ := datB_ok (ι := ⟨fun _ => 0, fun _ => False⟩) (n := 0) (H := fun _ => none) h
  refine ⟨x0, r0, fun ι n H => ?_⟩
  obtain ⟨x1, r1, r2⟩ := datB_ok (ι := ι) (n := n) (H := H) h
  rw [← relV_inj r1 r0]
  exact r2
section
variable {fa : List He.Fa} {fn : List He.DefD} {fx : List (PySem.W.Frag → Bool)} {ts : List He.Tab} {X : Cx} {E : XK} {a : Expr} {ma : EM} {x : Str} {p pos apos cpos : Pos} {l : List (Nat × Val)} {N : Nat} {ks : List Str}
theorem Txt.kd (T : Txt fa fn fx ts X.w X.K X.mg) (j : Nat) (h : ts[j]? = some (fun K => He.ga K x, ks) := by rfl) : ∃ es n, KDict X.K X.w (He.ga X.K x) es n := T.tabs j _ h
theorem find_ns {K : PySem.W.Frag} {d : Addr} {es : Array DictEntry} {n : Nat} {z : Str} {r : Option Value} (h : List.lookup d K = some { cls := .type "dict", data := .dict es n }) (e : PySem.W.nsIn K d z = some r) : findBy Value.isStrOf es z = r := by
  unfold PySem.W.nsIn at e
  rw [h] at e
  dsimp only at e
  have ef : (fun e : DictEntry => Value.isStrOf z e.key) = fun e => e.key.isStr z := by
    funext e
    cases e.key <;> rfl
  unfold findBy
  rw [ef, ← Array.find?_toList]
  cases e1 : es.toList.find? fun x => x.key.isStr z with
  | some en =>
    rw [e1] at e
    cases e
    rfl
  | none =>
    rw [e1] at e
    dsimp only at e
    by_cases c : (es.toList.any fun x => x.refKey) = true
    · rw [if_pos c] at e
      cases e
    · rw [if_neg c] at e
      cases e
      rfl
def tKget (K : PySem.W.Frag) (d : Addr) (te : TE) : TE := fun σ H Q => te σ H fun y H1 => ∃ z r v, y = .str z ∧ PySem.W.nsIn K d z = some r ∧ RelV v (r.getD .none) ∧ Q v H1
theorem pe_kget {o e : Expr} {d : Addr} {es : Array DictEntry} {n : Nat} {te : TE} (kd : KDict X.K X.w d es n) (ho : PE X o (tC (.ref d))) (he : PE X e te) (h : M1 X o "get" apos e cpos) : PE X (.Call (.Attribute o "get" apos) [e] [] cpos) (tKget X.K d te) := by
  refine ⟨fun pins s σ H Q I hq => wpAny_Call_method h.base h.few h.line F.plainAttrs_dict F.slot_dict_get F.type_dict_get (thn (ho.run pins s σ H (fun y H1 => y = .ref d ∧ tKget X.K d te σ H1 Q) I ⟨rfl, hq⟩) fun u s1 ⟨y, H1, I1, ry, ey, q⟩ => ?_)⟩
  subst ey
  have eu : u = .ref d := ry
  subst eu
  refine ⟨kd_type kd I1, fun a ea => ?_, ?_⟩
  · cases ea
    exact ⟨_, I1.kIn _ _ kd.at_, rfl⟩
  · rw [h.trees]
    refine wpAny_dict_get1 (knd := PySem.strKind X.prog X.w) kd.low (thn (he.run pins s1 σ H1 _ I1 q) fun w s2 ⟨y2, H2, I2, ry2, z, r, v, e1, e2, e3, q2⟩ => ?_)
    subst e1
    obtain ⟨t, rfl⟩ := ry2
    refine ⟨z, _, by simp [PySem.strKind, Value.isStrOf], PySem.W.mapOf_K I2.kIn kd.at_ kd.lit, v, H2, Inv.kept (t' := s2.toks + 1) I2 fun _ _ q => q, ?_, q2⟩
    rw [find_ns kd.at_ e2]
    exact e3
theorem re_kget (T : Txt fa fn fx ts X.w X.K X.mg) (i j k : Nat) (ha : RE X E a ma) (h : M1 X (.Name x p) "get" apos a cpos) (hg : Gl X x := by rfl) (hi : fa[i]? = some (.glo x) := by rfl) (hj : ts[j]? = some (fun K => He.ga K x, ks) := by rfl) (hk : fx[k]? = some (dctF x l N) := by rfl) (hd : (x == ("__debug__" : Str)) = false := by decide) :
    RE X E (.Call (.Attribute (.Name x p) "get" apos) [a] [] cpos) (eKget l N ma) := by
  obtain ⟨es, n, kd⟩ := T.kd j hj
  refine pe_weak (pe_kget kd (pe_glob hg (T.glo i hi) (v := .ref (He.ga X.K x)) rfl hd) ha h) fun σ H Q ⟨ι, G, ρ, S, sl, q⟩ => run1 S sl ((Post.bind q).mono fun ι1 G1 H1 v x1 S1 q1 y ry => ?_)
  cases v with
  | str c =>
    dsimp only at q1
    by_cases hc : c < N
    · rw [if_pos hc] at q1
      have f := T.more _ (List.mem_of_getElem? hk)
      rcases dctF_at f hc with ⟨u, v, e1, e2, e3⟩ | ⟨e1, e2⟩
      · rw [e2] at q1
        obtain ⟨z, r1, r2⟩ := datB_val e3
        exact ⟨nm c, _, z, ry, e1, r1, q1.here S1 _ (r2 _ _ _)⟩
      · rw [e2] at q1
        exact ⟨nm c, _, .non, ry, e1, rfl, q1.here S1 _ rfl⟩
    · rw [if_neg hc] at q1
      exact q1.elim
  | _ => exact q1.elim
end
/-! ### range(i, j, c) -/
/-! ### dict(pairs) -/
def pairOf (v : Val) : Option (Ky × Val) := match v with
  | .tup [k, w] => (match keyOf k with
    | some c => some (c, w)
    | none => none)
  | _ => none
def bDictP (z : Bool) : F1 := fun vs G => match vs with
  | [v] => (match (lstOf G v).bind (optAll pairOf) with
    | some kvs => mkD z (kvs.foldl (fun a q => putKy a q.1 q.2) []) G
    | none => .bad)
  | _ => .bad
/-- dict(x): of a dict, of a list of pairs -/
def bDictX (z : Bool) : F1 := orF1 (bDict z) (bDictP z)
end R1
/-! R1v: raise X(), try .. except X as e: return of what is known. -/
namespace R1
open PySem PySem.Spec PyProof.Rows L2
section
variable {X : Cx} {E : XK}
variable {fa : List He.Fa} {fn : List He.DefD} {fx : List (PySem.W.Frag → Bool)} {ts : List He.Tab} {w : World}
/-- what an except's suite tells -/
inductive Ht where
  | val (v : Val) | lst (z : Bool) (l : List Val)
def Ht.res : Ht → Store → Res Val
  | .val v, G => .ok v G
  | .lst z l, G => mkL z l G
end
/-! the suites -/
/-! defs that may raise -/
/-! isinstance of an instance with a built-in class -/
def isIns (c : Nat) (G : Store) (v : Val) : Bool := match v with
  | .obj i => (match G[i]? with
    | some (.ins d _) => decide (d = c)
    | _ => false)
  | _ => false
def eIsiX (c : Nat) (T : String) (m : EM) : EM := fun ρ G => (m ρ G).bind fun v G1 => if isIns c G1 v = true then .ok (.bl false) G1 else match tyN G1 v with
  | some n => .ok (.bl (isTy T n)) G1
  | none => .bad
/-! xs.index(v), v being there -/
/-! for k in e: e an expression for a dict of the store -/
end R1
/-! R3a: the mirror's steps as equations that simp walks. -/
namespace R1
open PySem
/-! ### the frame of the steps -/
section
variable {α β : Type} {G : Store} {ρ : Env1}
@[simp] theorem bind_ok {a : α} {f : α → Store → Res β} : (Res.ok a G).bind f = f a G := (rfl)
@[simp] theorem bind_bad {f : α → Store → Res β} : (Res.bad).bind f = .bad := (rfl)
@[simp] theorem bind_exc {c : Str} {f : α → Store → Res β} : (Res.exc c G).bind f = .exc c G := (rfl)
@[simp] theorem toS_ok {a : α} {f : α → Store → SR} : (Res.ok a G).toS f = f a G := (rfl)
@[simp] theorem toS_bad {f : α → Store → SR} : (Res.bad).toS f = .bad := (rfl)
@[simp] theorem toS_exc {c : Str} {f : α → Store → SR} : (Res.exc c G).toS f = .exc c G := (rfl)
@[simp] theorem then_next {f : SM} : (SR.next ρ G).andThen f = f ρ G := (rfl)
@[simp] theorem then_ret {v : Val} {f : SM} : (SR.ret v G).andThen f = .ret v G := (rfl)
@[simp] theorem then_brk {f : SM} : (SR.brk ρ G).andThen f = .brk ρ G := (rfl)
@[simp] theorem then_cont {f : SM} : (SR.cont ρ G).andThen f = .cont ρ G := (rfl)
@[simp] theorem then_exc {c : Str} {f : SM} : (SR.exc c G).andThen f = .exc c G := (rfl)
@[simp] theorem then_bad {f : SM} : (SR.bad).andThen f = .bad := (rfl)
/-! statements -/
@[simp] theorem v_seq {a b : SM} : sSeq a b ρ G = (a ρ G).andThen b := (rfl)
@[simp] theorem v_pass : sPass ρ G = .next ρ G := (rfl)
@[simp] theorem v_brk : sBrk ρ G = .brk ρ G := (rfl)
@[simp] theorem v_retN : sRetN ρ G = .ret .non G := (rfl)
@[simp] theorem v_ret {m : EM} : sRet m ρ G = (m ρ G).toS fun v G1 => .ret v G1 := (rfl)
@[simp] theorem v_ex {m : EM} : sEx m ρ G = (m ρ G).toS fun _ G1 => .next ρ G1 := (rfl)
@[simp] theorem v_set {i : Nat} {m : EM} : sSet i m ρ G = (m ρ G).toS fun v G1 => .next (ρ.set i (some v)) G1 := (rfl)
@[simp] theorem v_if {t : TM} {a b : SM} : sIf t a b ρ G = (t ρ G).toS fun k G1 => if k = true then a ρ G1 else b ρ G1 := (rfl)
@[simp] theorem v_un {p : Pt} {m : EM} : sUn p m ρ G = (m ρ G).toS fun v G1 => match ptSet G1 p v ρ with
  | some ρ' => .next ρ' G1
  | none => .bad := (rfl)
@[simp] theorem v_unA {l : List Nat} {m : EM} : sUnA l m ρ G = (m ρ G).toS fun v G1 => match (tupOf G1 v).bind fun vs => setAll l vs ρ with
  | some ρ' => .next ρ' G1
  | none => .bad := (rfl)
@[simp] theorem v_par {i j : Nat} {k : AM} : sPar i j k ρ G = (k ρ G).toS fun vs G1 => match vs with
  | [v, w] => .next ((ρ.set i (some v)).set j (some w)) G1
  | _ => .bad := (rfl)
@[simp] theorem v_put {o m e : EM} : sPut o m e ρ G = (e ρ G).toS fun w G1 => (o ρ G1).toS fun v G2 => (m ρ G2).toS fun u G3 => match putA v u w G3 with
  | some G4 => .next ρ G4
  | none => .bad := (rfl)
@[simp] theorem v_fld {c p : Nat} {o m : EM} : sFld1 c p o m ρ G = (m ρ G).toS fun v G1 => (o ρ G1).toS fun w G2 => match setFld c p w v G2 with
  | some G3 => .next ρ G3
  | none => .bad := (rfl)
@[simp] theorem v_ixaug {o m e : EM} : sIxAug o m e ρ G = (o ρ G).toS fun v G1 => (m ρ G1).toS fun u G2 => (fIxL v u G2).toS fun a G3 => (e ρ G3).toS fun b G4 => match addI a b with
  | some c => (match setIx v u c G4 with
    | some G5 => .next ρ G5
    | none => .bad)
  | none => .bad := (rfl)
@[simp] theorem v_aug {i : Nat} {m : EM} : sAug i m ρ G = match ρ[i]? with
  | some (some v) => (m ρ G).toS fun w G1 => (match addI v w with
    | some z => .next (ρ.set i (some z)) G1
    | none => .bad)
  | _ => .bad := (rfl)
@[simp] theorem addI_ii {a b : Int} : addI (.int a) (.int b) = some (.int (a + b)) := (rfl)
/-! walks -/
@[simp] theorem v_forR {rng : List Val → Option (List Val)} {m : AM} {p : Pt} {b : SM} : sForR rng m p b ρ G = (m ρ G).toS fun vs G1 => match rng vs with
  | some l => forIt p b l ρ G1
  | none => .bad := (rfl)
@[simp] theorem v_forA {m : EM} {p : Pt} {b : SM} : sForA m p b ρ G = (m ρ G).toS fun v G1 => match v with
  | .tup l => forIt p b l ρ G1
  | .fro l => forIt p b l ρ G1
  | .obj i => (match G1[i]? with
    | some (.lst l) => forOb p b i l 0 ρ G1
    | _ => .bad)
  | _ => .bad := (rfl)
@[simp] theorem v_forNil {p : Pt} {b : SM} : forIt p b [] ρ G = .next ρ G := (rfl)
theorem v_forCons {p : Pt} {b : SM} {v : Val} {r : List Val} : forIt p b (v :: r) ρ G = match ptSet G p v ρ with
  | none => .bad
  | some ρ1 => (match b ρ1 G with
    | .next ρ' G' => forIt p b r ρ' G'
    | .cont ρ' G' => forIt p b r ρ' G'
    | .brk ρ' G' => .next ρ' G'
    | r => r) := by
  show turn1 p b v (forIt p b r) ρ G = _
  unfold turn1
  cases ptSet G p v ρ with
  | none => rfl
  | some ρ1 => rfl
@[simp] theorem pt_nm {i : Nat} {v : Val} : ptSet G (.nm i) v ρ = some (ρ.set i (some v)) := (rfl)
@[simp] theorem pt_tup {is : List Nat} {vs : List Val} : ptSet G (.tup is) (.tup vs) ρ = setAll is vs ρ := (rfl)
@[simp] theorem setAll_nil : setAll [] [] ρ = some ρ := (rfl)
@[simp] theorem setAll_cons {i : Nat} {is : List Nat} {v : Val} {vs : List Val} : setAll (i :: is) (v :: vs) ρ = setAll is vs (ρ.set i (some v)) := (rfl)
/-! expressions -/
@[simp] theorem e_var {i : Nat} : eVar i ρ G = match ρ[i]? with
  | some (some v) => .ok v G
  | _ => .bad := (rfl)
@[simp] theorem e_c {v : Val} : eC v ρ G = .ok v G := (rfl)
@[simp] theorem e_op {f : F2} {a b : EM} : eOp f a b ρ G = (a ρ G).bind fun v G1 => (b ρ G1).bind fun u G2 => f v u G2 := (rfl)
@[simp] theorem e_test {m : EM} : eTest m ρ G = (m ρ G).bind fun v G1 => match v with
  | .bl b => .ok b G1
  | _ => .bad := (rfl)
@[simp] theorem e_truth {m : EM} : eTruth m ρ G = (m ρ G).bind fun v G1 => match truth G1 v with
  | some b => .ok b G1
  | none => .bad := (rfl)
@[simp] theorem e_tnot {m : TM} : tNot1 m ρ G = (m ρ G).bind fun b G1 => .ok (!b) G1 := (rfl)
@[simp] theorem e_tand {m k : TM} : tAnd1 m k ρ G = (m ρ G).bind fun b G1 => if b = true then k ρ G1 else .ok false G1 := (rfl)
@[simp] theorem e_tor {m k : TM} : tOr1 m k ρ G = (m ρ G).bind fun b G1 => if b = true then .ok true G1 else k ρ G1 := (rfl)
@[simp] theorem e_not {m : EM} : eNot m ρ G = (m ρ G).bind fun v G1 => match v with
  | .bl b => .ok (.bl (!b)) G1
  | _ => .bad := (rfl)
@[simp] theorem e_and {m k : EM} : eAnd m k ρ G = (m ρ G).bind fun v G1 => match v with
  | .bl true => k ρ G1
  | .bl false => .ok (.bl false) G1
  | _ => .bad := (rfl)
@[simp] theorem e_or {m k : EM} : eOr m k ρ G = (m ρ G).bind fun v G1 => match v with
  | .bl true => .ok (.bl true) G1
  | .bl false => k ρ G1
  | _ => .bad := (rfl)
@[simp] theorem e_if {t : TM} {a b : EM} : eIf t a b ρ G = (t ρ G).bind fun k G1 => if k = true then a ρ G1 else b ρ G1 := (rfl)
@[simp] theorem e_neg {m : EM} : eNeg m ρ G = (m ρ G).bind fun v G1 => match v with
  | .int i => .ok (.int (-i)) G1
  | _ => .bad := (rfl)
@[simp] theorem e_aNil : aNil ρ G = .ok [] G := (rfl)
@[simp] theorem e_aCons {m : EM} {k : AM} : aCons m k ρ G = (m ρ G).bind fun v G1 => (k ρ G1).bind fun vs G2 => .ok (v :: vs) G2 := (rfl)
theorem small_line {n : Nat} (h : n ≤ 1000000) : n ≤ sizeLine := Nat.le_trans h (by decide)
theorem small_lt {n : Nat} (h : n ≤ 1000000) : n < sizeLine := Nat.lt_of_le_of_lt h (by decide)
@[simp] theorem e_tup {k : AM} : eTup k ρ G = (k ρ G).bind fun vs G1 => if vs.length ≤ sizeLine then .ok (.tup vs) G1 else .bad := (rfl)
@[simp] theorem e_lst {z : Bool} {k : AM} : eLst z k ρ G = (k ρ G).bind fun vs G1 => if vs.length ≤ sizeLine then mkL z vs G1 else .bad := (rfl)
@[simp] theorem e_dic0 {z : Bool} : eDic0 z ρ G = mkD z [] G := (rfl)
@[simp] theorem mkL_t {l : List Val} : mkL true l G = .ok (.fro l) G := (rfl)
@[simp] theorem mkL_f {l : List Val} : mkL false l G = .ok (.obj G.length) (G ++ [.lst l]) := (rfl)
@[simp] theorem mkD_t {l : List (Ky × Val)} : mkD true l G = .ok (.frd l) G := (rfl)
@[simp] theorem mkD_f {l : List (Ky × Val)} : mkD false l G = .ok (.obj G.length) (G ++ [.dic l]) := (rfl)
@[simp] theorem sz0 : (0 ≤ sizeLine) = True := by simp
@[simp] theorem szn {n : Nat} (h : n.ble 1000 = true) : (n ≤ sizeLine) = True := eq_true (small_line (by have := Nat.le_of_ble_eq_true h; omega))
@[simp] theorem e_call {f : F1} {k : AM} : eCall f k ρ G = (k ρ G).bind fun vs G1 => f vs G1 := (rfl)
@[simp] theorem e_callF {f : F1} {dv : List Val} {k : AM} : eCallF f dv k ρ G = (k ρ G).bind fun vs G1 => f (vs ++ dv) G1 := (rfl)
@[simp] theorem e_sl {z : Bool} {m : EM} {lo hi : OM} : eSl z m lo hi ρ G = (m ρ G).bind fun v G1 => (lo ρ G1).bind fun l G2 => (hi ρ G2).bind fun u G3 => fSl z v l u G3 := (rfl)
@[simp] theorem e_oNone : oNone ρ G = .ok none G := (rfl)
@[simp] theorem e_oSome {m : EM} : oSome m ρ G = (m ρ G).bind fun v G1 => match v with
  | .int i => .ok (some i) G1
  | _ => .bad := (rfl)
@[simp] theorem e_isi {ty : String} {m : EM} : eIsi ty m ρ G = (m ρ G).bind fun v G1 => match tyN G1 v with
  | some n => .ok (.bl (isTy ty n)) G1
  | none => .bad := (rfl)
@[simp] theorem e_dget2 {o m d : EM} : eDget2 o m d ρ G = (o ρ G).bind fun v G1 => match dicOf G1 v with
  | none => .bad
  | some _ => (m ρ G1).bind fun u G2 => (d ρ G2).bind fun z G3 => (match dicOf G3 v, keyOf u with
    | some l, some k => .ok ((lookK l k).getD z) G3
    | _, _ => .bad) := (rfl)
@[simp] theorem e_dget {o m : EM} {f : Option Val → Option Val} : eDget o m f ρ G = (o ρ G).bind fun v G1 => match dicOf G1 v with
  | none => .bad
  | some _ => (m ρ G1).bind fun u G2 => (match dicOf G2 v, keyOf u with
    | some l, some k => (match f (lookK l k) with
      | some w => .ok w G2
      | none => .bad)
    | _, _ => .bad) := (rfl)
@[simp] theorem e_chain {f g : F2} {a b c : EM} : eChain f g a b c ρ G = (a ρ G).bind fun v G1 => (b ρ G1).bind fun u G2 => (f v u G2).bind fun k G3 => match k with
  | .bl true => (c ρ G3).bind fun w G4 => g u w G4
  | .bl false => .ok (.bl false) G3
  | _ => .bad := (rfl)
@[simp] theorem dic_frd {l : List (Ky × Val)} : dicOf G (.frd l) = some l := (rfl)
@[simp] theorem key_int {i : Int} : keyOf (.int i) = some (.inl i) := (rfl)
@[simp] theorem key_str {i : Nat} : keyOf (.str i) = some (.inr i) := (rfl)
end
/-! ### a def -/
def fin (r : SR) : Res Val := match r with
  | .next _ G' => .ok .non G'
  | .ret v G' => .ok v G'
  | .exc c G' => .exc c G'
  | _ => .bad
section
variable {G J : Store} {ρ : Env1} {v : Val}
@[simp] theorem fin_next : fin (.next ρ G) = .ok .non G := (rfl)
@[simp] theorem fin_ret : fin (.ret v G) = .ok v G := (rfl)
@[simp] theorem fin_exc {c : Str} : fin (.exc c G) = .exc c G := (rfl)
theorem run_eq {N np : Nat} {b : SM} {vs : List Val} (h : vs.length = np) : runDef N np b vs G = fin (b (vs.map some ++ List.replicate (N - np) none) G) := by
  unfold runDef fin
  rw [if_pos h]
  all_goals (cases b (vs.map some ++ List.replicate (N - np) none) G <;> rfl)
theorem runT_eq {N np : Nat} {b : SM} {vs : List Val} (h : vs.length = np) : runDefT N np b vs G = trunc G (fin (b (vs.map some ++ List.replicate (N - np) none) G)) := by
  unfold runDefT
  rw [run_eq h]
mutual
theorem clo_mono {n m : Nat} (h : n ≤ m) : ∀ {v : Val}, clo n v = true → clo m v = true
  | .non, _ => rfl
  | .bl _, _ => rfl
  | .int _, _ => rfl
  | .str _, _ => rfl
  | .tup l, c => cloL_mono h (l := l) c
  | .fro l, c => cloL_mono h (l := l) c
  | .scr l, c => cloL_mono h (l := l) c
  | .frd l, c => cloD_mono h (l := l) c
  | .obj i, c => decide_eq_true (Nat.lt_of_lt_of_le (of_decide_eq_true c) h)
theorem cloL_mono {n m : Nat} (h : n ≤ m) : ∀ {l : List Val}, cloL n l = true → cloL m l = true
  | [], _ => rfl
  | v :: l, c => by
    obtain ⟨c1, c2⟩ := Bool.and_eq_true_iff.mp c
    exact Bool.and_eq_true_iff.mpr ⟨clo_mono h c1, cloL_mono h c2⟩
theorem cloD_mono {n m : Nat} (h : n ≤ m) : ∀ {l : List (Ky × Val)}, cloD n l = true → cloD m l = true
  | [], _ => rfl
  | (k, v) :: l, c => by
    obtain ⟨c1, c2⟩ := Bool.and_eq_true_iff.mp c
    exact Bool.and_eq_true_iff.mpr ⟨clo_mono h c1, cloD_mono h c2⟩
end
/-- a value without objects -/
def dat (v : Val) : Bool := clo 0 v
def datL1 (l : List Val) : Bool := cloL 0 l
def datD (l : List (Ky × Val)) : Bool := cloD 0 l
@[simp] theorem dat_non : dat .non = true := (rfl)
@[simp] theorem dat_bl {b : Bool} : dat (.bl b) = true := (rfl)
@[simp] theorem dat_int {i : Int} : dat (.int i) = true := (rfl)
@[simp] theorem dat_str {i : Nat} : dat (.str i) = true := (rfl)
@[simp] theorem dat_tup {l : List Val} : dat (.tup l) = datL1 l := (rfl)
@[simp] theorem dat_fro {l : List Val} : dat (.fro l) = datL1 l := (rfl)
@[simp] theorem dat_frd {l : List (Ky × Val)} : dat (.frd l) = datD l := (rfl)
@[simp] theorem datL_nil : datL1 [] = true := (rfl)
@[simp] theorem datL_cons {l : List Val} : datL1 (v :: l) = (dat v && datL1 l) := (rfl)
@[simp] theorem datD_nil : datD [] = true := (rfl)
@[simp] theorem datD_cons {k : Ky} {l : List (Ky × Val)} : datD ((k, v) :: l) = (dat v && datD l) := (rfl)
theorem datL_iff : ∀ {l : List Val}, datL1 l = true ↔ ∀ v ∈ l, dat v = true
  | [] => by simp
  | v :: l => by
    rw [datL_cons, Bool.and_eq_true_iff, datL_iff (l := l)]
    simp
@[simp] theorem datL_app {l m : List Val} : datL1 (l ++ m) = (datL1 l && datL1 m) := by
  rw [Bool.eq_iff_iff, Bool.and_eq_true_iff, datL_iff, datL_iff, datL_iff]
  simp only [List.mem_append]
  exact ⟨fun h => ⟨fun v hv => h v (.inl hv), fun v hv => h v (.inr hv)⟩, fun h v hv => hv.elim (h.1 v) (h.2 v)⟩
theorem trunc_d (h : dat v = true) : trunc G (.ok v (G ++ J)) = .ok v G := by
  unfold trunc
  have h1 : clo G.length v = true := clo_mono (Nat.zero_le _) h
  have h2 : frzV G.length (G ++ J) v = some v := by
    cases v with
    | tup l => exact if_pos h1
    | obj i => simp [dat, clo] at h
    | _ => exact (if_pos h1 : (if clo G.length _ = true then some _ else none) = some _)
  dsimp only
  rw [h2]
  simp
theorem trunc_d0 (h : dat v = true) : trunc G (.ok v G) = .ok v G := by
  have := trunc_d (G := G) (J := []) h
  simpa using this
theorem trunc_l {l : List Val} {k : Nat} (hk : J[k]? = some (.lst l)) (h : datL1 l = true) : trunc G (.ok (.obj (G.length + k)) (G ++ J)) = .ok (.fro l) G := by
  unfold trunc
  have h1 : cloL G.length l = true := cloL_mono (Nat.zero_le _) h
  have h2 : frzV G.length (G ++ J) (.obj (G.length + k)) = some (.fro l) := by
    show (if G.length + k < G.length then _ else _) = _
    rw [if_neg (by omega), List.getElem?_append_right (by omega), Nat.add_sub_cancel_left, hk]
    simp [h1]
  dsimp only
  rw [h2]
  simp
theorem trunc_l0 {l : List Val} (h : datL1 l = true) : trunc G (.ok (.obj G.length) (G ++ [.lst l])) = .ok (.fro l) G := trunc_l (k := 0) rfl h
/-! ### the store's new part -/
@[simp] theorem get_0 : (G ++ J)[G.length]? = J[0]? := by rw [List.getElem?_append_right (Nat.le_refl _), Nat.sub_self]
@[simp] theorem get_k {k : Nat} : (G ++ J)[G.length + k]? = J[k]? := by rw [List.getElem?_append_right (Nat.le_add_right _ _), Nat.add_sub_cancel_left]
@[simp] theorem set_0 {o : Ob} : (G ++ J).set G.length o = G ++ J.set 0 o := by rw [List.set_append_right _ _ (Nat.le_refl _), Nat.sub_self]
@[simp] theorem set_k {k : Nat} {o : Ob} : (G ++ J).set (G.length + k) o = G ++ J.set k o := by rw [List.set_append_right _ _ (Nat.le_add_right _ _), Nat.add_sub_cancel_left]
end
/-! ### operators on known values -/
section
variable {G : Store} {a b : Int} {l m : List Val} {v w : Val} {z : Bool}
@[simp] theorem fAdd_ii : fAdd z (.int a) (.int b) G = .ok (.int (a + b)) G := (rfl)
@[simp] theorem fSub_ii : fSub (.int a) (.int b) G = .ok (.int (a - b)) G := (rfl)
@[simp] theorem fLt_ii : fLt (.int a) (.int b) G = .ok (.bl (decide (a < b))) G := (rfl)
@[simp] theorem fLe_ii : fLe (.int a) (.int b) G = .ok (.bl (decide (a ≤ b))) G := (rfl)
@[simp] theorem fGt_ii : fGt (.int a) (.int b) G = .ok (.bl (decide (b < a))) G := (rfl)
@[simp] theorem fGe_ii : fGe (.int a) (.int b) G = .ok (.bl (decide (b ≤ a))) G := (rfl)
theorem fMul_l (h : inRng a = true) : fMul z (.int a) (.int b) G = .ok (.int (a * b)) G := by
  unfold fMul orF fMulI fI
  simp [h]
theorem fMul_r (h : inRng b = true) : fMul z (.int a) (.int b) G = .ok (.int (a * b)) G := by
  unfold fMul orF fMulI fI
  simp [h]
theorem fDiv_ii (h : 0 < b) (h2 : b < 1073741824) : fDiv (.int a) (.int b) G = .ok (.int (a / b)) G := by
  unfold fDiv fI
  simp [h, h2]
theorem fMod_ii (h : 0 < b) : fMod (.int a) (.int b) G = .ok (.int (a % b)) G := by
  unfold fMod fI
  simp [h]
@[simp] theorem fIs_n : fIs v .non G = .ok (.bl (isNon v)) G := (rfl)
@[simp] theorem fIsNot_n : fIsNot v .non G = .ok (.bl (!isNon v)) G := (rfl)
@[simp] theorem isNon_non : isNon .non = true := (rfl)
@[simp] theorem isNon_int : isNon (.int a) = false := (rfl)
@[simp] theorem isNon_bl {b : Bool} : isNon (.bl b) = false := (rfl)
@[simp] theorem isNon_str {b : Nat} : isNon (.str b) = false := (rfl)
@[simp] theorem isNon_tup : isNon (.tup l) = false := (rfl)
/-! items -/
theorem atL_nat {k : Nat} : atL l (k : Int) = l[k]? := by
  unfold atL L2.atI
  by_cases h : k < l.length
  · have e3 : L2.ixN l.length (k : Int) = some k := by
      unfold L2.ixN
      simp
      omega
    rw [e3]
    rfl
  · have e3 : L2.ixN l.length (k : Int) = none := by
      unfold L2.ixN
      simp
      omega
    rw [e3, List.getElem?_eq_none (by omega)]
    rfl
@[simp] theorem items_tup : itemsOf G (.tup l) = some l := (rfl)
@[simp] theorem items_fro : itemsOf G (.fro l) = some l := (rfl)
@[simp] theorem items_scr : itemsOf G (.scr l) = some l := (rfl)
theorem fIx_at {k : Nat} (h : itemsOf G v = some l) (e : l[k]? = some w) : fIx v (.int (k : Int)) G = .ok w G := by
  unfold fIx orF fIxS
  rw [h]
  simp only [atL_nat, e]
@[simp] theorem fIx_t0 : fIx (.tup (v :: l)) (.int 0) G = .ok v G := fIx_at (k := 0) (l := v :: l) rfl rfl
@[simp] theorem fIx_t1 {v1 : Val} : fIx (.tup (v1 :: v :: l)) (.int 1) G = .ok v G := fIx_at (k := 1) (l := v1 :: v :: l) rfl rfl
@[simp] theorem fIx_t2 {v1 v2 : Val} : fIx (.tup (v1 :: v2 :: v :: l)) (.int 2) G = .ok v G := fIx_at (k := 2) (l := v1 :: v2 :: v :: l) rfl rfl
@[simp] theorem fIx_t3 {v1 v2 v3 : Val} : fIx (.tup (v1 :: v2 :: v3 :: v :: l)) (.int 3) G = .ok v G := fIx_at (k := 3) (l := v1 :: v2 :: v3 :: v :: l) rfl rfl
@[simp] theorem fIx_t4 {v1 v2 v3 v4 : Val} : fIx (.tup (v1 :: v2 :: v3 :: v4 :: v :: l)) (.int 4) G = .ok v G := fIx_at (k := 4) (l := v1 :: v2 :: v3 :: v4 :: v :: l) rfl rfl
@[simp] theorem fIx_t5 {v1 v2 v3 v4 v5 : Val} : fIx (.tup (v1 :: v2 :: v3 :: v4 :: v5 :: v :: l)) (.int 5) G = .ok v G := fIx_at (k := 5) (l := v1 :: v2 :: v3 :: v4 :: v5 :: v :: l) rfl rfl
@[simp] theorem fIx_f0 : fIx (.fro (v :: l)) (.int 0) G = .ok v G := fIx_at (k := 0) (l := v :: l) rfl rfl
@[simp] theorem fIx_f1 {v1 : Val} : fIx (.fro (v1 :: v :: l)) (.int 1) G = .ok v G := fIx_at (k := 1) (l := v1 :: v :: l) rfl rfl
@[simp] theorem fIx_f2 {v1 v2 : Val} : fIx (.fro (v1 :: v2 :: v :: l)) (.int 2) G = .ok v G := fIx_at (k := 2) (l := v1 :: v2 :: v :: l) rfl rfl
@[simp] theorem fIx_f3 {v1 v2 v3 : Val} : fIx (.fro (v1 :: v2 :: v3 :: v :: l)) (.int 3) G = .ok v G := fIx_at (k := 3) (l := v1 :: v2 :: v3 :: v :: l) rfl rfl
@[simp] theorem fIx_f4 {v1 v2 v3 v4 : Val} : fIx (.fro (v1 :: v2 :: v3 :: v4 :: v :: l)) (.int 4) G = .ok v G := fIx_at (k := 4) (l := v1 :: v2 :: v3 :: v4 :: v :: l) rfl rfl
@[simp] theorem fIx_f5 {v1 v2 v3 v4 v5 : Val} : fIx (.fro (v1 :: v2 :: v3 :: v4 :: v5 :: v :: l)) (.int 5) G = .ok v G := fIx_at (k := 5) (l := v1 :: v2 :: v3 :: v4 :: v5 :: v :: l) rfl rfl
@[simp] theorem fIx_t6 {v1 v2 v3 v4 v5 v6 : Val} : fIx (.tup (v1 :: v2 :: v3 :: v4 :: v5 :: v6 :: v :: l)) (.int 6) G = .ok v G := fIx_at (k := 6) (l := v1 :: v2 :: v3 :: v4 :: v5 :: v6 :: v :: l) rfl rfl
@[simp] theorem fIx_t7 {v1 v2 v3 v4 v5 v6 v7 : Val} : fIx (.tup (v1 :: v2 :: v3 :: v4 :: v5 :: v6 :: v7 :: v :: l)) (.int 7) G = .ok v G := fIx_at (k := 7) (l := v1 :: v2 :: v3 :: v4 :: v5 :: v6 :: v7 :: v :: l) rfl rfl
@[simp] theorem fIx_t8 {v1 v2 v3 v4 v5 v6 v7 v8 : Val} : fIx (.tup (v1 :: v2 :: v3 :: v4 :: v5 :: v6 :: v7 :: v8 :: v :: l)) (.int 8) G = .ok v G := fIx_at (k := 8) (l := v1 :: v2 :: v3 :: v4 :: v5 :: v6 :: v7 :: v8 :: v :: l) rfl rfl
@[simp] theorem fIx_f6 {v1 v2 v3 v4 v5 v6 : Val} : fIx (.fro (v1 :: v2 :: v3 :: v4 :: v5 :: v6 :: v :: l)) (.int 6) G = .ok v G := fIx_at (k := 6) (l := v1 :: v2 :: v3 :: v4 :: v5 :: v6 :: v :: l) rfl rfl
@[simp] theorem fIx_f7 {v1 v2 v3 v4 v5 v6 v7 : Val} : fIx (.fro (v1 :: v2 :: v3 :: v4 :: v5 :: v6 :: v7 :: v :: l)) (.int 7) G = .ok v G := fIx_at (k := 7) (l := v1 :: v2 :: v3 :: v4 :: v5 :: v6 :: v7 :: v :: l) rfl rfl
@[simp] theorem fIx_f8 {v1 v2 v3 v4 v5 v6 v7 v8 : Val} : fIx (.fro (v1 :: v2 :: v3 :: v4 :: v5 :: v6 :: v7 :: v8 :: v :: l)) (.int 8) G = .ok v G := fIx_at (k := 8) (l := v1 :: v2 :: v3 :: v4 :: v5 :: v6 :: v7 :: v8 :: v :: l) rfl rfl
/-! built-ins -/
@[simp] theorem bLen_tup : bLen [.tup l] G = .ok (.int l.length) G := (rfl)
@[simp] theorem bLen_fro : bLen [.fro l] G = .ok (.int l.length) G := (rfl)
@[simp] theorem bLen_scr : bLen [.scr l] G = .ok (.int l.length) G := (rfl)
@[simp] theorem bInt_i : bInt [.int a] G = .ok (.int a) G := (rfl)
@[simp] theorem bInt_b {b : Bool} : bInt [.bl b] G = .ok (.int (if b then 1 else 0)) G := (rfl)
@[simp] theorem bAbs_i : bAbs [.int a] G = .ok (.int (if a < 0 then -a else a)) G := (rfl)
@[simp] theorem bMax_ii : bMax [.int a, .int b] G = .ok (.int (if b > a then b else a)) G := (rfl)
@[simp] theorem bMin_ii : bMin [.int a, .int b] G = .ok (.int (if b < a then b else a)) G := (rfl)
@[simp] theorem bTuple_tup : bTuple [.tup l] G = .ok (.tup l) G := (rfl)
@[simp] theorem bTuple_fro : bTuple [.fro l] G = .ok (.tup l) G := (rfl)
@[simp] theorem bListA_tup : bListA z [.tup l] G = mkL z l G := by
  unfold bListA orF1 bList
  simp only [items_tup]
  cases z <;> rfl
@[simp] theorem bListA_fro : bListA z [.fro l] G = mkL z l G := by
  unfold bListA orF1 bList
  simp only [items_fro]
  cases z <;> rfl
@[simp] theorem bListA_scr : bListA z [.scr l] G = mkL z l G := by
  unfold bListA orF1 bList
  simp only [items_scr]
  cases z <;> rfl
@[simp] theorem bDictX_frd {d : List (Ky × Val)} : bDictX z [.frd d] G = mkD z d G := by
  unfold bDictX orF1
  cases z <;> rfl
@[simp] theorem bDict_frd {d : List (Ky × Val)} : bDict z [.frd d] G = mkD z d G := (rfl)
@[simp] theorem tyN_non : tyN G .non = some "NoneType" := (rfl)
@[simp] theorem tyN_bl {b : Bool} : tyN G (.bl b) = some "bool" := (rfl)
@[simp] theorem tyN_int : tyN G (.int a) = some "int" := (rfl)
@[simp] theorem tyN_str {k : Nat} : tyN G (.str k) = some "str" := (rfl)
@[simp] theorem tyN_tup : tyN G (.tup l) = some "tuple" := (rfl)
@[simp] theorem tyN_fro : tyN G (.fro l) = some "list" := (rfl)
@[simp] theorem truth_bl {b : Bool} : truth G (.bl b) = some b := (rfl)
@[simp] theorem truth_fro : truth G (.fro l) = some (!l.isEmpty) := (rfl)
@[simp] theorem lst_fro : lstOf G (.fro l) = some l := (rfl)
theorem asInts_map : ∀ ns : List Int, asInts (ns.map Val.int) = some ns
  | [] => rfl
  | n :: ns => by
    show (asInts (ns.map Val.int)).map (n :: ·) = some (n :: ns)
    rw [asInts_map ns]
    rfl
theorem sortI_perm (l : List Int) : (sortI l).Perm l := List.mergeSort_perm l _
theorem sortI_sorted (l : List Int) : (sortI l).Pairwise (· ≤ ·) := by
  have h := List.pairwise_mergeSort (le := fun a b : Int => decide (a ≤ b)) (fun a b c h1 h2 => by simp at *; omega) (fun a b => by simp; omega) l
  exact h.imp fun h => of_decide_eq_true h
theorem bSortX_ints {ns : List Int} (h : lstOf G v = some (ns.map Val.int)) : bSortX [v] G = .ok (.fro ((sortI ns).map Val.int)) G := by
  have e : bSortL [v] G = .ok (.fro ((sortI ns).map Val.int)) G := by
    unfold bSortL itemsL
    dsimp only
    rw [h]
    simp only [Option.bind, asInts_map]
  unfold bSortX orF1 bSortA orF1
  rw [e]
end
/-! ### comprehensions whose parts keep the store -/
section
variable {p : Pt} {tt : TM} {te tk tv : EM} {ρw : Env1} {G : Store}
theorem lcF_pure {f : Val → Bool} {g : Val → Val} : ∀ {l : List Val}, (∀ v ∈ l, ∃ ρ2, ptSet G p v ρw = some ρ2 ∧ tt ρ2 G = .ok (f v) G ∧ (f v = true → te ρ2 G = .ok (g v) G)) → lcF p tt te ρw l G = .ok ((l.filter f).map g) G
  | [], _ => rfl
  | v :: l, h => by
    obtain ⟨ρ2, e1, e2, e3⟩ := h v (List.mem_cons_self ..)
    have ih := lcF_pure fun w hw => h w (List.mem_cons_of_mem _ hw)
    unfold lcF lcFT
    rw [e1]
    simp only [e2, bind_ok]
    by_cases hf : f v = true
    · rw [if_pos hf, e3 hf]
      simp [ih, hf]
    · rw [if_neg hf, ih]
      simp [hf]
@[simp] theorem froR_ok {z : Bool} {l : List Val} : froR z (.ok l G) = mkL z l G := (rfl)
@[simp] theorem frdR_ok {z : Bool} {l : List (Ky × Val)} : frdR z (.ok l G) = mkD z l G := (rfl)
@[simp] theorem tTrue_ok {ρ : Env1} : tTrue ρ G = .ok true G := (rfl)
/-- over known items -/
theorem eLcF_of {z : Bool} {m : EM} {own : List Nat} {ρ : Env1} {v : Val} {l : List Val} {f : Val → Bool} {g : Val → Val} (hm : m ρ G = .ok v G) (hv : v = .tup l ∨ v = .fro l) (hl : l.length ≤ 1000000)
    (h : ∀ v ∈ l, ∃ ρ2, ptSet G p v (wipe1 ρ own) = some ρ2 ∧ tt ρ2 G = .ok (f v) G ∧ (f v = true → te ρ2 G = .ok (g v) G)) : eLcF z m p tt te own ρ G = mkL z ((l.filter f).map g) G := by
  unfold eLcF
  rw [hm]
  rcases hv with rfl | rfl <;> (simp only [bind_ok]; rw [if_pos (small_line hl), lcF_pure h]; rfl)
theorem eLcFR_of {z : Bool} {rng : List Val → Option (List Val)} {m : AM} {own : List Nat} {ρ : Env1} {vs l : List Val} {f : Val → Bool} {g : Val → Val} (hm : m ρ G = .ok vs G) (hv : rng vs = some l) (hl : l.length ≤ 1000000)
    (h : ∀ v ∈ l, ∃ ρ2, ptSet G p v (wipe1 ρ own) = some ρ2 ∧ tt ρ2 G = .ok (f v) G ∧ (f v = true → te ρ2 G = .ok (g v) G)) : eLcFR z rng m p tt te own ρ G = mkL z ((l.filter f).map g) G := by
  unfold eLcFR
  rw [hm]
  simp only [bind_ok, hv]
  rw [if_pos (small_line hl), lcF_pure h]
  rfl
end
end R1
/-! R3b: comprehensions and walks over lists of known things. -/
namespace R1
open PySem
section
variable {α : Type} {p : Pt} {tt : TM} {te tk tv : EM} {ρw : Env1} {G : Store} {enc : α → Val}
theorem lcF_map {f : α → Bool} {g : α → Val} : ∀ {xs : List α}, (∀ a ∈ xs, ∃ ρ2, ptSet G p (enc a) ρw = some ρ2 ∧ tt ρ2 G = .ok (f a) G ∧ (f a = true → te ρ2 G = .ok (g a) G)) → lcF p tt te ρw (xs.map enc) G = .ok ((xs.filter f).map g) G
  | [], _ => rfl
  | a :: xs, h => by
    obtain ⟨ρ2, e1, e2, e3⟩ := h a (List.mem_cons_self ..)
    have ih := lcF_map fun w hw => h w (List.mem_cons_of_mem _ hw)
    rw [List.map_cons]
    unfold lcF lcFT
    rw [e1]
    simp only [e2, bind_ok]
    by_cases hf : f a = true
    · rw [if_pos hf, e3 hf]
      simp [ih, hf]
    · rw [if_neg hf, ih]
      simp [hf]
theorem eLcF_map (xs : List α) (f : α → Bool) (g : α → Val) {z : Bool} {m : EM} {own : List Nat} {ρ : Env1} {v : Val} (hm : m ρ G = .ok v G) (hv : v = .tup (xs.map enc) ∨ v = .fro (xs.map enc)) (hl : xs.length ≤ 1000000)
    (h : ∀ a ∈ xs, ∃ ρ2, ptSet G p (enc a) (wipe1 ρ own) = some ρ2 ∧ tt ρ2 G = .ok (f a) G ∧ (f a = true → te ρ2 G = .ok (g a) G)) : eLcF z m p tt te own ρ G = mkL z ((xs.filter f).map g) G := by
  have hl2 : (xs.map enc).length ≤ sizeLine := by rw [List.length_map]; exact small_line hl
  unfold eLcF
  rw [hm]
  rcases hv with rfl | rfl <;> (simp only [bind_ok]; rw [if_pos hl2, lcF_map h]; rfl)
/-- without a test -/
theorem eLcF_map1 (xs : List α) (g : α → Val) {z : Bool} {m : EM} {own : List Nat} {ρ : Env1} {v : Val} (hm : m ρ G = .ok v G) (hv : v = .tup (xs.map enc) ∨ v = .fro (xs.map enc)) (hl : xs.length ≤ 1000000)
    (h : ∀ a ∈ xs, ∃ ρ2, ptSet G p (enc a) (wipe1 ρ own) = some ρ2 ∧ te ρ2 G = .ok (g a) G) : eLcF z m p tTrue te own ρ G = mkL z (xs.map g) G := by
  rw [eLcF_map xs (fun _ => true) g hm hv hl fun a ha => ?_]
  · rw [List.filter_eq_self.mpr fun _ _ => rfl]
  · obtain ⟨ρ2, e1, e2⟩ := h a ha
    exact ⟨ρ2, e1, rfl, fun _ => e2⟩
end
end R1
namespace R1
open PySem
section
variable {G J : Store} {i : Nat} {d : List (Ky × Val)} {k : Int} {w : Val}
theorem isDic_obj (h : G[i]? = some (.dic d)) : isDic G (.obj i) = some (i, d) := by
  unfold isDic
  dsimp only
  rw [h]
theorem putA_dic (h : G[i]? = some (.dic d)) (hl : d.length ≤ 100000) : putA (.obj i) (.int k) w G = some (G.set i (.dic (putKy d (.inl k) w))) := by
  unfold putA
  rw [isDic_obj h]
  dsimp only [keyOf]
  rw [if_pos (small_lt (by omega))]
end
end R1
namespace R1
open PySem
/-! ### slices -/
theorem cut_take {l : List Val} {n : Nat} : cutL l none (some (n : Int)) = l.take n := by
  unfold cutL HT.sIx
  have h1 : ¬ ((n : Int) < 0) := by omega
  simp only [if_neg h1, Int.toNat_natCast, List.drop_zero, Nat.sub_zero]
  by_cases h : n ≤ l.length
  · rw [Nat.min_eq_left h]
  · rw [Nat.min_eq_right (by omega), List.take_length, List.take_of_length_le (by omega)]
theorem cut_drop {l : List Val} {n : Nat} : cutL l (some (n : Int)) none = l.drop n := by
  unfold cutL HT.sIx
  have h1 : ¬ ((n : Int) < 0) := by omega
  simp only [if_neg h1, Int.toNat_natCast]
  by_cases h : n ≤ l.length
  · rw [Nat.min_eq_left h, List.take_of_length_le (by simp)]
  · rw [Nat.min_eq_right (by omega), List.drop_of_length_le (Nat.le_refl _), List.drop_of_length_le (by omega)]
    simp
theorem fSl_take {z : Bool} {l : List Val} {n : Nat} {G : Store} : fSl z (.fro l) none (some (n : Int)) G = mkL z (l.take n) G := by
  unfold fSl
  simp only [lst_fro, cut_take]
theorem fSl_drop {z : Bool} {l : List Val} {n : Nat} {G : Store} : fSl z (.fro l) (some (n : Int)) none G = mkL z (l.drop n) G := by
  unfold fSl
  simp only [lst_fro, cut_drop]
end R1
/-! R3c: dicts with int keys as lists of pairs; pairs of ints, sorted. -/
namespace R1
open PySem
section
variable {β γ : Type}
/-- the value at a key -/
def lookA (l : List (Int × β)) (k : Int) : Option β := (l.find? fun q => decide (q.1 = k)).map (·.2)
def putL (l : List (Int × β)) (k : Int) (v : β) : List (Int × β) := if (l.any fun q => decide (q.1 = k)) = true then l.map (fun q => if q.1 = k then (q.1, v) else q) else l ++ [(k, v)]
def kvE (e : β → Val) (l : List (Int × β)) : List (Ky × Val) := l.map fun q => (.inl q.1, e q.2)
abbrev Keys (l : List (Int × β)) : List Int := l.map (·.1)
@[simp] theorem lookA_nil {k : Int} : lookA ([] : List (Int × β)) k = none := (rfl)
theorem any_key {l : List (Int × β)} {k : Int} : ((l.any fun q => decide (q.1 = k)) = true) ↔ k ∈ Keys l := by
  rw [List.any_eq_true]
  constructor
  · rintro ⟨q, h1, h2⟩
    exact List.mem_map.mpr ⟨q, h1, of_decide_eq_true h2⟩
  · intro h
    obtain ⟨q, h1, h2⟩ := List.mem_map.mp h
    exact ⟨q, h1, decide_eq_true h2⟩
theorem keys_putL {l : List (Int × β)} {k : Int} {v : β} : Keys (putL l k v) = if k ∈ Keys l then Keys l else Keys l ++ [k] := by
  unfold putL
  by_cases h : k ∈ Keys l
  · rw [if_pos (any_key.mpr h), if_pos h]
    unfold Keys
    rw [List.map_map]
    congr 1
    funext q
    by_cases e : q.1 = k <;> simp [e]
  · rw [if_neg (fun q => h (any_key.mp q)), if_neg h]
    simp
theorem nodup_putL {l : List (Int × β)} {k : Int} {v : β} (hn : (Keys l).Nodup) : (Keys (putL l k v)).Nodup := by
  rw [keys_putL]
  by_cases h : k ∈ Keys l
  · rw [if_pos h]
    exact hn
  · rw [if_neg h]
    exact List.nodup_append.mpr ⟨hn, by simp, fun a ha b hb e => h (by rw [List.mem_singleton.mp hb] at e; rw [← e]; exact ha)⟩
/-! as the mirror has them -/
variable {e : β → Val}
theorem any_kvE {l : List (Int × β)} {k : Int} : ((kvE e l).any fun kv => decide (kv.1 = .inl k)) = l.any fun q => decide (q.1 = k) := by
  unfold kvE
  rw [List.any_map]
  congr 1
  funext q
  show decide ((Sum.inl q.1 : Ky) = .inl k) = _
  by_cases h : q.1 = k
  · simp [h]
  · have h2 : ¬ ((Sum.inl q.1 : Ky) = .inl k) := fun z => h (Sum.inl.inj z)
    simp [h, h2]
theorem put_kvE {l : List (Int × β)} {k : Int} {v : β} : putKy (kvE e l) (.inl k) (e v) = kvE e (putL l k v) := by
  unfold putKy putL
  rw [any_kvE]
  by_cases h : (l.any fun q => decide (q.1 = k)) = true
  · rw [if_pos h, if_pos h]
    unfold kvE
    rw [List.map_map, List.map_map]
    congr 1
    funext q
    show (if (Sum.inl q.1 : Ky) = .inl k then (_, _) else _) = _
    by_cases h : q.1 = k
    · rw [if_pos (by rw [h])]
      simp [h]
    · rw [if_neg fun z => h (Sum.inl.inj z)]
      simp [h]
  · rw [if_neg h, if_neg h]
    unfold kvE
    simp
@[simp] theorem length_kvE {l : List (Int × β)} : (kvE e l).length = l.length := by simp [kvE]
@[simp] theorem keysD_kvE {l : List (Int × β)} : keysD (kvE e l) = (Keys l).map Val.int := by
  unfold keysD kvE Keys
  rw [List.map_map, List.map_map]
  rfl
end
/-! ### pairs of ints -/
abbrev Prs := List (Int × Int)
def pv (p : Int × Int) : Val := .tup [.int p.1, .int p.2]
def optV : Option Int → Val
  | none => .non
  | some i => .int i
@[simp] theorem dat_pvs (l : Prs) : datL1 (l.map pv) = true := by
  rw [datL_iff]
  intro v hv
  obtain ⟨p, _, rfl⟩ := List.mem_map.mp hv
  rfl
@[simp] theorem dat_optV (o : Option Int) : dat (optV o) = true := by cases o <;> (exact (rfl))
@[simp] theorem dat_ints (l : List Int) : datL1 (l.map Val.int) = true := by
  rw [datL_iff]
  intro v hv
  obtain ⟨p, _, rfl⟩ := List.mem_map.mp hv
  rfl
def leP (a b : Int × Int) : Bool := leT [a.1, a.2] [b.1, b.2]
def sortP (l : Prs) : Prs := l.mergeSort leP
theorem sortP_perm (l : Prs) : (sortP l).Perm l := List.mergeSort_perm l _
@[simp] theorem sortP_len (l : Prs) : (sortP l).length = l.length := (sortP_perm l).length_eq
end R1
/-! R3d: lists of the store. -/
namespace R1
open PySem
section
variable {G : Store} {i k : Nat} {l : List Val} {v w : Val} {z : Bool}
theorem items_obj (h : G[i]? = some (.lst l)) : itemsOf G (.obj i) = some l := by
  unfold itemsOf
  simp only [h]
theorem fIx_lobj (h : G[i]? = some (.lst l)) (e : l[k]? = some w) : fIx (.obj i) (.int (k : Int)) G = .ok w G := fIx_at (items_obj h) e
theorem ixN_nat (h : k < l.length) : L2.ixN l.length (k : Int) = some k := by
  unfold L2.ixN
  simp
  omega
theorem setLst_obj {f : List Val → Option (List Val)} {m : List Val} (h : G[i]? = some (.lst l)) (e : f l = some m) : setLst (.obj i) f G = some (G.set i (.lst m)) := by
  unfold setLst
  simp only [h, e]
  rfl
theorem setIx_lst (h : G[i]? = some (.lst l)) (hk : k < l.length) : setIx (.obj i) (.int (k : Int)) w G = some (G.set i (.lst (l.set k w))) := by
  unfold setIx
  exact setLst_obj h (by rw [ixN_nat hk]; rfl)
theorem putA_lst (h : G[i]? = some (.lst l)) (hk : k < l.length) : putA (.obj i) (.int (k : Int)) w G = some (G.set i (.lst (l.set k w))) := by
  unfold putA
  have e : isDic G (.obj i) = none := by
    unfold isDic
    simp only [h]
  rw [e]
  exact setIx_lst h hk
theorem bLen_obj (h : G[i]? = some (.lst l)) : bLen [.obj i] G = .ok (.int l.length) G := by
  unfold bLen
  simp only [items_obj h]
end
theorem rng1_nat {n : Nat} (h : n ≤ 1000000) : rng1 [.int (n : Int)] = some ((List.range' 0 n).map fun (k : Nat) => Val.int (k : Int)) := by
  unfold rng1
  have : inLine (n : Int) = true := by
    unfold inLine
    simp
    omega
  simp only [this, if_true]
  unfold rangeL
  simp [List.range_eq_range']
@[simp] theorem fIsNot_b {a b : Bool} {G : Store} : fIsNot (.bl a) (.bl b) G = .ok (.bl (!(a == b))) G := (rfl)
@[simp] theorem fIs_b {a b : Bool} {G : Store} : fIs (.bl a) (.bl b) G = .ok (.bl (a == b)) G := (rfl)
@[simp] theorem e_kin {neg : Bool} {l : List (Nat × Val)} {N : Nat} {m : EM} {ρ : Env1} {G : Store} : eKin neg l N m ρ G = (m ρ G).bind fun v G1 => match v with
  | .str k => if k < N then .ok (.bl (neg != (l.lookup k).isSome)) G1 else .bad
  | _ => .bad := (rfl)
@[simp] theorem e_kix {l : List (Nat × Val)} {N : Nat} {m : EM} {ρ : Env1} {G : Store} : eKix l N m ρ G = (m ρ G).bind fun v G1 => match v with
  | .str k => if k < N then (match l.lookup k with
    | some v => .ok v G1
    | none => .bad) else .bad
  | _ => .bad := (rfl)
@[simp] theorem e_kget {l : List (Nat × Val)} {N : Nat} {m : EM} {ρ : Env1} {G : Store} : eKget l N m ρ G = (m ρ G).bind fun v G1 => match v with
  | .str k => if k < N then .ok ((l.lookup k).getD .non) G1 else .bad
  | _ => .bad := (rfl)
end R1
/-! R3e: instances. -/
namespace R1
open PySem
def fldV (pl : List (Nat × Nat)) (v : Val) (G : Store) : Res Val := match v with
  | .obj i => (match G[i]? with
    | some (.ins c vs) => (match (pl.lookup c).bind fun p => vs[p]? with
      | some w => .ok w G
      | none => .bad)
    | _ => .bad)
  | _ => .bad
def methV (tb : List (Nat × F1)) (dv : List Val) (k : AM) (ρ : Env1) (w : Val) (G : Store) : Res Val := match w with
  | .obj i => (match G[i]? with
    | some (.ins c _) => (match tb.lookup c with
      | some f => (k ρ G).bind fun vs G2 => f (w :: (vs ++ dv)) G2
      | none => .bad)
    | _ => .bad)
  | _ => .bad
def augV (c p : Nat) (w : Val) (m : EM) (ρ : Env1) (G : Store) : SR := match w with
  | .obj i => (match G[i]? with
    | some (.ins c' vs) => if c' = c then (match vs[p]? with
      | some v => (m ρ G).toS fun u G2 => (match addI v u with
        | some z => (match setFld c p w z G2 with
          | some G3 => .next ρ G3
          | none => .bad)
        | none => .bad)
      | none => .bad) else .bad
    | _ => .bad)
  | _ => .bad
section
variable {G : Store} {ρ : Env1} {i c : Nat} {vs : List Val} {v w : Val}
@[simp] theorem e_fld {m : EM} {pl : List (Nat × Nat)} : eFld m pl ρ G = (m ρ G).bind fun v G1 => fldV pl v G1 := (rfl)
@[simp] theorem e_meth {tb : List (Nat × F1)} {dv : List Val} {o : EM} {k : AM} : eMeth tb dv o k ρ G = (o ρ G).bind fun w G1 => methV tb dv k ρ w G1 := (rfl)
@[simp] theorem v_fldaug {c p : Nat} {o m : EM} : sFldAug1 c p o m ρ G = (o ρ G).toS fun w G1 => augV c p w m ρ G1 := (rfl)
theorem fldV_at {pl : List (Nat × Nat)} (h : G[i]? = some (.ins c vs)) (e : ((pl.lookup c).bind fun p => vs[p]?) = some w) : fldV pl (.obj i) G = .ok w G := by
  unfold fldV
  simp only [h, e]
theorem methV_at {tb : List (Nat × F1)} {f : F1} {dv : List Val} {k : AM} (h : G[i]? = some (.ins c vs)) (e : tb.lookup c = some f) : methV tb dv k ρ (.obj i) G = (k ρ G).bind fun vs G2 => f (.obj i :: (vs ++ dv)) G2 := by
  unfold methV
  simp only [h, e]
theorem methV_1 {f : F1} {dv : List Val} {k : AM} (h : G[i]? = some (.ins c vs)) : methV [(c, f)] dv k ρ (.obj i) G = (k ρ G).bind fun vs G2 => f (.obj i :: (vs ++ dv)) G2 := methV_at h (by simp [List.lookup])
theorem setFld_at {p : Nat} (h : G[i]? = some (.ins c vs)) (hp : p ≤ vs.length) : setFld c p (.obj i) v G = some (G.set i (.ins c (if p < vs.length then vs.set p v else vs ++ [v]))) := by
  unfold setFld
  simp only [h]
  rw [if_pos ⟨trivial, hp⟩]
theorem augV_at {p : Nat} {m : EM} {a b : Int} (h : G[i]? = some (.ins c vs)) (e : vs[p]? = some (.int a)) (hm : m ρ G = .ok (.int b) G) : augV c p (.obj i) m ρ G = .next ρ (G.set i (.ins c (vs.set p (.int (a + b))))) := by
  have hp : p < vs.length := (List.getElem?_eq_some_iff.mp e).1
  unfold augV
  simp only [h, e, if_true, hm, toS_ok, addI_ii]
  rw [setFld_at h (Nat.le_of_lt hp), if_pos hp]
end
/-! values without objects: what they are as data -/
def dataOf (v : Val) : Option PyData := toD [] dEq v
mutual
theorem toD_dat {G G' : Store} : ∀ (k : Nat) {v : Val}, dat v = true → toD G k v = toD G' k v
  | k, .non, _ => by cases k <;> rfl
  | k, .bl _, _ => by cases k <;> rfl
  | k, .int _, _ => by cases k <;> rfl
  | k, .str _, _ => by cases k <;> rfl
  | 0, .tup _, _ => rfl
  | 0, .fro _, _ => rfl
  | k, .frd _, _ => by cases k <;> rfl
  | k, .scr _, _ => by cases k <;> rfl
  | _, .obj i, h => by simp [dat, clo] at h
  | k + 1, .tup l, h => by
    show (optAll (toD G k) l).map PyData.tuple = (optAll (toD G' k) l).map PyData.tuple
    rw [toD_dats k (l := l) h]
  | k + 1, .fro l, h => by
    show (optAll (toD G k) l).map PyData.list = (optAll (toD G' k) l).map PyData.list
    rw [toD_dats k (l := l) h]
theorem toD_dats {G G' : Store} : ∀ (k : Nat) {l : List Val}, datL1 l = true → optAll (toD G k) l = optAll (toD G' k) l
  | k, [], _ => rfl
  | k, v :: l, h => by
    rw [datL_cons, Bool.and_eq_true_iff] at h
    unfold optAll
    rw [toD_dat k h.1, toD_dats k h.2]
end
theorem fNeA_dat {G : Store} {v u : Val} {d e : PyData} (hv : dat v = true) (hu : dat u = true) (h1 : dataOf v = some d) (h2 : dataOf u = some e) : fNeA v u G = .ok (.bl (!PyData.eqv d e)) G := by
  unfold fNeA orF fNe
  rw [toD_dat dEq hv (G' := []), toD_dat dEq hu (G' := [])]
  unfold dataOf at h1 h2
  simp only [h1, h2]
@[simp] theorem fEqA_ii {a b : Int} {G : Store} : fEqA (.int a) (.int b) G = .ok (.bl (decide (a = b))) G := by
  unfold fEqA orF fEq toD
  simp only
  congr 2
@[simp] theorem fNeA_ii {a b : Int} {G : Store} : fNeA (.int a) (.int b) G = .ok (.bl (!decide (a = b))) G := by
  unfold fNeA orF fNe toD
  simp only
  congr 2
theorem eqv_str (a b : Nat) : PyData.eqv (.str (nm a)) (.str (nm b)) = decide (a = b) := by
  rw [← nm_eq]
  rfl
@[simp] theorem fEqA_ss {a b : Nat} {G : Store} : fEqA (.str a) (.str b) G = .ok (.bl (decide (a = b))) G := by
  unfold fEqA orF fEq toD
  simp only [eqv_str]
@[simp] theorem fNeA_ss {a b : Nat} {G : Store} : fNeA (.str a) (.str b) G = .ok (.bl (!decide (a = b))) G := by
  unfold fNeA orF fNe toD
  simp only [eqv_str]
end R1
/-! R3f: equality of values without objects. -/
namespace R1
open PySem
theorem eqvAll_cons {a b : PyData} {l m : List PyData} : PyData.eqvAll (a :: l) (b :: m) = (PyData.eqv a b && PyData.eqvAll l m) := by
  simp [PyData.eqvAll]
theorem eqvAll_nil : PyData.eqvAll [] [] = true := by simp [PyData.eqvAll]
theorem toD_self {G : Store} : ∀ (k : Nat) {v : Val} {d : PyData}, toD G k v = some d → PyData.eqv d d = true := by
  have ls : ∀ (k : Nat), (∀ {v : Val} {d : PyData}, toD G k v = some d → PyData.eqv d d = true) → ∀ {l : List Val} {r : List PyData}, optAll (toD G k) l = some r → PyData.eqvAll r r = true := by
    intro k ih l
    induction l with
    | nil =>
      intro r h
      unfold optAll at h
      cases h
      exact eqvAll_nil
    | cons v l il =>
      intro r h
      obtain ⟨b, s, h1, h2, rfl⟩ := optAll_cons h
      rw [eqvAll_cons, ih h1, il h2]
      rfl
  intro k
  induction k with
  | zero =>
    intro v d h
    cases v <;> first
      | (cases h; simp [PyData.eqv]; done)
      | (cases h; done)
  | succ k ih =>
    intro v d h
    cases v with
    | tup l =>
      cases e : optAll (toD G k) l with
      | none =>
        have h : (optAll (toD G k) l).map PyData.tuple = some d := h
        rw [e] at h
        cases h
      | some r =>
        have h : (optAll (toD G k) l).map PyData.tuple = some d := h
        rw [e] at h
        cases h
        simpa [PyData.eqv] using ls k (fun h => ih h) e
    | fro l =>
      cases e : optAll (toD G k) l with
      | none =>
        have h : (optAll (toD G k) l).map PyData.list = some d := h
        rw [e] at h
        cases h
      | some r =>
        have h : (optAll (toD G k) l).map PyData.list = some d := h
        rw [e] at h
        cases h
        simpa [PyData.eqv] using ls k (fun h => ih h) e
    | obj i =>
      unfold toD at h
      split at h
      · rename_i l _
        cases e : optAll (toD G k) l with
        | none =>
          rw [e] at h
          cases h
        | some r =>
          rw [e] at h
          cases h
          simpa [PyData.eqv] using ls k (fun h => ih h) e
      · cases h
    | _ => first
      | (cases h; simp [PyData.eqv]; done)
      | (cases h; done)
theorem fEqA_self {G : Store} {v : Val} {d : PyData} (h : toD G dEq v = some d) : fEqA v v G = .ok (.bl true) G := by
  unfold fEqA orF fEq
  simp only [h, toD_self dEq h]
noncomputable instance : DecidableEq Val := fun a b => Classical.propDecidable (a = b)
/-! values without truth values, at most so deep: equality is sameness -/
mutual
def pln : Nat → Val → Bool
  | _, .non => true
  | _, .int _ => true
  | _, .str _ => true
  | k + 1, .tup l => plnL k l
  | k + 1, .fro l => plnL k l
  | _, _ => false
def plnL : Nat → List Val → Bool
  | _, [] => true
  | k, v :: l => pln k v && plnL k l
end
theorem pln_toD {G : Store} : ∀ (k : Nat) {v : Val}, pln k v = true → ∃ d, toD G k v = some d := by
  intro k
  induction k with
  | zero =>
    intro v hv
    cases v <;> first | (cases hv; done) | exact ⟨_, rfl⟩
  | succ k ih =>
    intro v hv
    have ls : ∀ {l : List Val}, plnL k l = true → ∃ r, optAll (toD G k) l = some r := by
      intro l
      induction l with
      | nil => exact fun _ => ⟨[], rfl⟩
      | cons w l il =>
        intro h
        have h : (pln k w && plnL k l) = true := h
        rw [Bool.and_eq_true_iff] at h
        obtain ⟨r, er⟩ := il h.2
        obtain ⟨d, e1⟩ := ih h.1
        exact ⟨d :: r, by unfold optAll; rw [e1, er]⟩
    cases v with
    | tup l =>
      obtain ⟨r, e⟩ := ls (l := l) hv
      exact ⟨.tuple r, by show (optAll (toD G k) l).map _ = _; rw [e]; rfl⟩
    | fro l =>
      obtain ⟨r, e⟩ := ls (l := l) hv
      exact ⟨.list r, by show (optAll (toD G k) l).map _ = _; rw [e]; rfl⟩
    | _ => first | (cases hv; done) | exact ⟨_, rfl⟩
theorem plnL_toD {G : Store} {k : Nat} : ∀ {l : List Val}, plnL k l = true → ∃ r, optAll (toD G k) l = some r
  | [], _ => ⟨[], rfl⟩
  | w :: l, h => by
    have h : (pln k w && plnL k l) = true := h
    rw [Bool.and_eq_true_iff] at h
    obtain ⟨r, er⟩ := plnL_toD h.2
    obtain ⟨d, e1⟩ := pln_toD (G := G) k h.1
    exact ⟨d :: r, by unfold optAll; rw [e1, er]⟩
def EqvP (k : Nat) (G : Store) : Prop := ∀ {v u : Val} {d e : PyData}, pln k v = true → pln k u = true → toD G k v = some d → toD G k u = some e → PyData.eqv d e = decide (v = u)
theorem eqvL {G : Store} {k : Nat} (ih : EqvP k G) : ∀ {l m : List Val} {r s : List PyData}, plnL k l = true → plnL k m = true → optAll (toD G k) l = some r → optAll (toD G k) m = some s → PyData.eqvAll r s = decide (l = m)
  | [], [], r, s, _, _, h1, h2 => by
    cases h1
    cases h2
    simp [PyData.eqvAll]
  | [], u :: m, r, s, _, _, h1, h2 => by
    cases h1
    obtain ⟨_, _, _, _, rfl⟩ := optAll_cons h2
    simp [PyData.eqvAll]
  | v :: l, [], r, s, _, _, h1, h2 => by
    cases h2
    obtain ⟨_, _, _, _, rfl⟩ := optAll_cons h1
    simp [PyData.eqvAll]
  | v :: l, u :: m, r, s, hl, hm, h1, h2 => by
    have hl : (pln k v && plnL k l) = true := hl
    have hm : (pln k u && plnL k m) = true := hm
    rw [Bool.and_eq_true_iff] at hl hm
    obtain ⟨_, _, e1, e2, rfl⟩ := optAll_cons h1
    obtain ⟨_, _, f1, f2, rfl⟩ := optAll_cons h2
    rw [eqvAll_cons, ih hl.1 hm.1 e1 f1, eqvL ih hl.2 hm.2 e2 f2]
    by_cases h1 : v = u <;> by_cases h2 : l = m <;> simp [h1, h2]
theorem eqv_pln {G : Store} : ∀ (k : Nat), EqvP k G := by
  have tp : ∀ {k : Nat} {l : List Val} {d : PyData}, plnL k l = true → toD G (k + 1) (.tup l) = some d → ∃ r, optAll (toD G k) l = some r ∧ d = .tuple r := by
    intro k l d hl h
    obtain ⟨r, e⟩ := plnL_toD (G := G) hl
    have h : (optAll (toD G k) l).map PyData.tuple = some d := h
    rw [e] at h
    cases h
    exact ⟨r, e, rfl⟩
  have fp : ∀ {k : Nat} {l : List Val} {d : PyData}, plnL k l = true → toD G (k + 1) (.fro l) = some d → ∃ r, optAll (toD G k) l = some r ∧ d = .list r := by
    intro k l d hl h
    obtain ⟨r, e⟩ := plnL_toD (G := G) hl
    have h : (optAll (toD G k) l).map PyData.list = some d := h
    rw [e] at h
    cases h
    exact ⟨r, e, rfl⟩
  intro k
  induction k with
  | zero =>
    intro v u d e hv hu h1 h2
    cases v <;> first | (cases hv; done) | (cases h1; done) | skip
    all_goals (cases u <;> first | (cases hu; done) | (cases h2; done) | skip)
    all_goals (cases h1; cases h2)
    all_goals first
      | (simp [PyData.eqv]; done)
      | (rw [eqv_str]; simp; done) | (rw [Bool.eq_iff_iff]; simp [PyData.eqv]; done)
  | succ k ih =>
    intro v u d e hv hu h1 h2
    cases v <;> first | (cases hv; done) | skip
    all_goals (cases u <;> first | (cases hu; done) | skip)
    case tup.tup l m =>
      obtain ⟨r, e1, rfl⟩ := tp hv h1
      obtain ⟨s, e2, rfl⟩ := tp hu h2
      simpa [PyData.eqv] using eqvL ih hv hu e1 e2
    case fro.fro l m =>
      obtain ⟨r, e1, rfl⟩ := fp hv h1
      obtain ⟨s, e2, rfl⟩ := fp hu h2
      simpa [PyData.eqv] using eqvL ih hv hu e1 e2
    all_goals first
      | (cases h1; cases h2; first | (simp [PyData.eqv]; done) | (rw [eqv_str]; simp; done) | (rw [Bool.eq_iff_iff]; simp [PyData.eqv]; done); done)
      | (obtain ⟨r, e1, rfl⟩ := tp hv h1; first | (obtain ⟨s, e2, rfl⟩ := fp hu h2; simp [PyData.eqv]; done) | (cases h2; simp [PyData.eqv]; done); done)
      | (obtain ⟨r, e1, rfl⟩ := fp hv h1; first | (obtain ⟨s, e2, rfl⟩ := tp hu h2; simp [PyData.eqv]; done) | (cases h2; simp [PyData.eqv]; done); done)
      | (obtain ⟨r, e1, rfl⟩ := tp hu h2; cases h1; simp [PyData.eqv]; done)
      | (obtain ⟨r, e1, rfl⟩ := fp hu h2; cases h1; simp [PyData.eqv]; done)
theorem fEqA_pln {G : Store} {v u : Val} (hv : pln dEq v = true) (hu : pln dEq u = true) : fEqA v u G = .ok (.bl (decide (v = u))) G := by
  obtain ⟨d, e1⟩ := pln_toD (G := G) _ hv
  obtain ⟨e, e2⟩ := pln_toD (G := G) _ hu
  unfold fEqA orF fEq
  simp only [e1, e2, eqv_pln dEq hv hu e1 e2]
end R1
/-! R3g: raise and try. -/
namespace R1
open PySem
def tryR (v : Ht) (r : SR) : SR := match r with
  | .exc c G' => if c = ("NotValid" : Str) then (v.res G').toS fun w G2 => .ret w G2 else .bad
  | r => r
section
variable {G : Store} {ρ : Env1} {v : Ht} {w : Val} {c : Str}
@[simp] theorem tryR_exc : tryR v (.exc ("NotValid" : Str) G) = (v.res G).toS fun w G2 => .ret w G2 := by
  show (if ("NotValid" : Str) = ("NotValid" : Str) then (v.res G).toS fun w G2 => SR.ret w G2 else SR.bad) = _
  rw [if_pos rfl]
@[simp] theorem tryR_ret : tryR v (.ret w G) = .ret w G := (rfl)
@[simp] theorem tryR_next : tryR v (.next ρ G) = .next ρ G := (rfl)
@[simp] theorem res_val : (Ht.val w).res G = .ok w G := (rfl)
@[simp] theorem res_lst {z : Bool} {l : List Val} : (Ht.lst z l).res G = mkL z l G := (rfl)
@[simp] theorem e_isix {k : Nat} {T : String} {m : EM} : eIsiX k T m ρ G = (m ρ G).bind fun v G1 => if isIns k G1 v = true then .ok (.bl false) G1 else match tyN G1 v with
  | some n => .ok (.bl (isTy T n)) G1
  | none => .bad := (rfl)
@[simp] theorem isIns_fro {k : Nat} {l : List Val} : isIns k G (.fro l) = false := (rfl)
@[simp] theorem isIns_bl {k : Nat} {b : Bool} : isIns k G (.bl b) = false := (rfl)
@[simp] theorem isIns_non {k : Nat} : isIns k G .non = false := (rfl)
@[simp] theorem trunc_exc {G' : Store} : trunc G (.exc c G') = .exc c G' := (rfl)
theorem fAdd_ff {z : Bool} {a b : List Val} (h : a.length + b.length ≤ 1000000) : fAdd z (.fro a) (.fro b) G = mkL z (a ++ b) G := by
  unfold fAdd orF fAddI fI fCat
  simp only [lst_fro]
  rw [if_pos (small_line h)]
  cases z <;> rfl
end
section
variable {α : Type} {p : Pt} {tt : TM} {te : EM} {ρw : Env1} {G : Store} {enc : α → Val}
theorem lcFob_pure {f : α → Bool} {g : α → Val} {xs : List α} {i : Nat} (hi : G[i]? = some (.lst (xs.map enc))) (h : ∀ a ∈ xs, ∃ ρ2, ptSet G p (enc a) ρw = some ρ2 ∧ tt ρ2 G = .ok (f a) G ∧ (f a = true → te ρ2 G = .ok (g a) G)) : ∀ (fuel : List Val) (k : Nat), fuel.length + k = xs.length → lcFob p tt te ρw i fuel k G = .ok (((xs.drop k).filter f).map g) G
  | [], k, hk => by
    unfold lcFob
    simp at hk
    simp only [hi, List.length_map]
    rw [if_pos (by omega), List.drop_of_length_le (by omega)]
    rfl
  | y :: fuel, k, hk => by
    simp only [List.length_cons] at hk
    have hkl : k < xs.length := by omega
    have ih := lcFob_pure hi h fuel (k + 1) (by omega)
    obtain ⟨ρ2, e1, e2, e3⟩ := h xs[k] (List.getElem_mem hkl)
    unfold lcFob
    simp only [hi, List.getElem?_map, List.getElem?_eq_getElem hkl, Option.map_some]
    unfold lcFT
    rw [e1]
    simp only [e2, bind_ok]
    rw [List.drop_eq_getElem_cons hkl]
    by_cases hf : f xs[k] = true
    · rw [if_pos hf, e3 hf]
      simp only [bind_ok, ih, List.filter_cons]
      rw [if_pos hf, List.map_cons]
    · rw [if_neg hf, ih, List.filter_cons, if_neg hf]
theorem eLcF_obj (xs : List α) (f : α → Bool) (g : α → Val) {z : Bool} {m : EM} {own : List Nat} {ρ : Env1} {i : Nat} (hm : m ρ G = .ok (.obj i) G) (hi : G[i]? = some (.lst (xs.map enc))) (hl : xs.length ≤ 1000000)
    (h : ∀ a ∈ xs, ∃ ρ2, ptSet G p (enc a) (wipe1 ρ own) = some ρ2 ∧ tt ρ2 G = .ok (f a) G ∧ (f a = true → te ρ2 G = .ok (g a) G)) : eLcF z m p tt te own ρ G = mkL z ((xs.filter f).map g) G := by
  unfold eLcF
  rw [hm]
  simp only [bind_ok, hi]
  rw [if_pos (small_line (by rw [List.length_map]; exact hl)), lcFob_pure hi h _ 0 (by simp)]
  rfl
theorem eLcF_obj1 (xs : List α) (g : α → Val) {z : Bool} {m : EM} {own : List Nat} {ρ : Env1} {i : Nat} (hm : m ρ G = .ok (.obj i) G) (hi : G[i]? = some (.lst (xs.map enc))) (hl : xs.length ≤ 1000000)
    (h : ∀ a ∈ xs, ∃ ρ2, ptSet G p (enc a) (wipe1 ρ own) = some ρ2 ∧ te ρ2 G = .ok (g a) G) : eLcF z m p tTrue te own ρ G = mkL z (xs.map g) G := by
  rw [eLcF_obj xs (fun _ => true) g hm hi hl fun a ha => ?_]
  · rw [List.filter_eq_self.mpr fun _ _ => rfl]
  · obtain ⟨ρ2, e1, e2⟩ := h a ha
    exact ⟨ρ2, e1, rfl, fun _ => e2⟩
end
end R1
namespace Dk
open PySem R1
noncomputable section
def b_Store_waiting : SM := (sSeq (sSet 1 (eLcF false (eFld (eVar 0) [(5, 4)]) (.tup [2, 3]) tTrue (eTup (aCons (eVar 2) (aCons (eCall (bListA true) (aCons (eVar 3) aNil)) aNil))) [2, 3])) (sSeq (sIf (eTruth (eFld (eVar 0) [(5, 3)])) (sEx (eApp (eVar 1) (eTup (aCons (eC .non) (aCons (eCall (bListA true) (aCons (eFld (eVar 0) [(5, 3)]) aNil)) aNil))))) sPass) (sRet (eVar 1))))
def m_Store_waiting : F1 := runDefT 4 1 b_Store_waiting
def b_Stack_ended : SM := (sRet (eOp fEqA (eCall bLen (aCons (eFld (eVar 0) [(3, 0)]) aNil)) (eC (.int 0))))
def m_Stack_ended : F1 := runDefT 1 1 b_Stack_ended
def b_Entering_accept : SM := (sIf (eTest (eOp fEqA (eFld (eVar 0) [(6, 2)]) (eC (.str 3)))) (sFld1 6 2 (eVar 0) (eC (.str 27))) (sIf (tAnd1 (eTest (eOp fEqA (eFld (eVar 0) [(6, 2)]) (eC (.str 27)))) (eTest (eOp fEqA (eOp fIx (eVar 1) (eC (.int 0))) (eFld (eVar 0) [(6, 3)])))) (sFld1 6 2 (eVar 0) (eC (.str 14))) (sSeq (sFld1 6 3 (eVar 0) (eOp fIx (eVar 1) (eC (.int 0)))) (sFld1 6 2 (eVar 0) (eC (.str 3))))))
def m_Entering_accept : F1 := runDef 2 2 b_Entering_accept
def b_Store_stamp : SM := (sSeq (sEx (eApp (eFld (eVar 0) [(5, 4)]) (eTup (aCons (eVar 1) (aCons (eFld (eVar 0) [(5, 3)]) aNil))))) (sFld1 5 3 (eVar 0) (eLst true aNil)))
def m_Store_stamp : F1 := runDef 2 2 b_Store_stamp
def b_Leaving_look_on : SM := (sSeq (sFld1 7 3 (eVar 0) (eC (.str 29))) (sIf (eTruth (eFld (eVar 0) [(7, 2)])) (sFld1 7 3 (eVar 0) (eC (.str 31))) sPass))
def m_Leaving_look_on : F1 := runDef 1 1 b_Leaving_look_on
def b_Store_give_back : SM := (sFld1 5 2 (eVar 0) (eCall bSortX (aCons (eOp (fAdd true) (eFld (eVar 0) [(5, 2)]) (eCall (bListA true) (aCons (eVar 1) aNil))) aNil)))
def m_Store_give_back : F1 := runDef 2 2 b_Store_give_back
def b_Store_release_l1 : SM := (sIf (eTest (eOp fLe (eVar 3) (eOp fSub (eVar 1) (eC (.int 3))))) (sEx (eMeth [(5, m_Store_give_back)] [] (eVar 0) (aCons (eVar 4) aNil))) (sEx (eApp (eVar 2) (eTup (aCons (eVar 3) (aCons (eVar 4) aNil))))))
def b_Store_release : SM := (sSeq (sSet 2 (eLst false aNil)) (sSeq (sForA (eFld (eVar 0) [(5, 4)]) (.tup [3, 4]) b_Store_release_l1) (sFld1 5 4 (eVar 0) (eVar 2))))
def m_Store_release : F1 := runDef 5 2 b_Store_release
def b_Leaving_finish : SM := (sSeq (sEx (eMeth [(5, m_Store_release)] [] (eFld (eVar 0) [(7, 0)]) (aCons (eVar 1) aNil))) (sFld1 7 3 (eVar 0) (eC (.str 14))))
def m_Leaving_finish : F1 := runDef 2 2 b_Leaving_finish
def b_Leaving_take_other : SM := (sIf (tAnd1 (eTest (eOp fIsNot (eVar 1) (eC .non))) (eTest (eOp fNeA (eVar 1) (eFld (eVar 0) [(7, 1)])))) (sEx (eMeth [(7, m_Leaving_finish)] [] (eVar 0) (aCons (eFld (eVar 0) [(7, 1)]) aNil))) (sSeq (sFld1 7 2 (eVar 0) (eSl true (eFld (eVar 0) [(7, 2)]) (oSome (eC (.int 1))) oNone)) (sEx (eMeth [(7, m_Leaving_look_on)] [] (eVar 0) aNil))))
def m_Leaving_take_other : F1 := runDef 2 2 b_Leaving_take_other
def b_Leaving_accept : SM := (sSeq (sSet 2 (eOp fIx (eVar 1) (eC (.int 0)))) (sIf (eTest (eOp fEqA (eFld (eVar 0) [(7, 3)]) (eC (.str 30)))) (sSeq (sEx (eMeth [(5, m_Store_stamp)] [] (eFld (eVar 0) [(7, 0)]) (aCons (eVar 2) aNil))) (sFld1 7 3 (eVar 0) (eC (.str 28)))) (sIf (eTest (eOp fEqA (eFld (eVar 0) [(7, 3)]) (eC (.str 28)))) (sSeq (sFld1 7 3 (eVar 0) (eC (.str 14))) (sIf (eTruth (eFld (eFld (eVar 0) [(7, 0)]) [(5, 4)])) (sFld1 7 3 (eVar 0) (eC (.str 32))) sPass)) (sIf (eTest (eOp fEqA (eFld (eVar 0) [(7, 3)]) (eC (.str 32)))) (sSeq (sFld1 7 1 (eVar 0) (eVar 2)) (sEx (eMeth [(7, m_Leaving_look_on)] [] (eVar 0) aNil))) (sIf (eTest (eOp fEqA (eFld (eVar 0) [(7, 3)]) (eC (.str 31)))) (sEx (eMeth [(7, m_Leaving_take_other)] [] (eVar 0) (aCons (eVar 2) aNil))) (sEx (eMeth [(7, m_Leaving_finish)] [] (eVar 0) (aCons (eOp (fAdd true) (eFld (eVar 0) [(7, 1)]) (eCall bInt (aCons (eVar 2) aNil))) aNil))))))))
def m_Leaving_accept : F1 := runDef 3 2 b_Leaving_accept
def b_Stack_pass_on : SM := (sIf (eTruth (eFld (eVar 0) [(3, 0)])) (sEx (eMeth [(6, m_Entering_accept), (7, m_Leaving_accept)] [] (eOp fIx (eFld (eVar 0) [(3, 0)]) (eNeg (eC (.int 1)))) (aCons (eVar 1) aNil))) (sFld1 3 1 (eVar 0) (eVar 1)))
def m_Stack_pass_on : F1 := runDef 2 2 b_Stack_pass_on
def b_Entering_request : SM := (sSeq (sIf (eTest (eOp fEqA (eFld (eVar 0) [(6, 2)]) (eC (.str 14)))) (sRet (eTup (aCons (eC (.str 14)) (aCons (eFld (eVar 0) [(6, 3)]) aNil)))) sPass) (sSeq (sIf (eTest (eOp fEqA (eFld (eVar 0) [(6, 2)]) (eC (.str 3)))) (sRet (eTup (aCons (eC (.str 3)) (aCons (eFld (eVar 0) [(6, 1)]) (aCons (eFld (eVar 0) [(6, 3)]) aNil))))) sPass) (sRet (eTup (aCons (eC (.str 2)) (aCons (eFld (eVar 0) [(6, 0)]) aNil))))))
def m_Entering_request : F1 := runDefT 1 1 b_Entering_request
def b_Layout_epoch : SM := (sRet (eC (.int 0)))
def m_Layout_epoch : F1 := runDefT 1 1 b_Layout_epoch
def b_Layout_epoch_slot : SM := (sRet (eOp (fAdd true) (eC (.int 1)) (eVar 1)))
def m_Layout_epoch_slot : F1 := runDefT 2 2 b_Layout_epoch_slot
def b_Leaving_request : SM := (sSeq (sSet 1 (eFld (eFld (eVar 0) [(7, 0)]) [(5, 0), (1, 0)])) (sSeq (sIf (tOr1 (eTest (eOp fEqA (eFld (eVar 0) [(7, 3)]) (eC (.str 30)))) (eTest (eOp fEqA (eFld (eVar 0) [(7, 3)]) (eC (.str 32))))) (sRet (eTup (aCons (eC (.str 2)) (aCons (eMeth [(0, m_Layout_epoch)] [] (eVar 1) aNil) aNil)))) sPass) (sSeq (sIf (eTest (eOp fEqA (eFld (eVar 0) [(7, 3)]) (eC (.str 28)))) (sRet (eTup (aCons (eC (.str 3)) (aCons (eMeth [(0, m_Layout_epoch_slot)] [] (eVar 1) (aCons (eFld (eFld (eVar 0) [(7, 0)]) [(5, 1)]) aNil)) (aCons (eC .non) aNil))))) sPass) (sSeq (sIf (eTest (eOp fEqA (eFld (eVar 0) [(7, 3)]) (eC (.str 31)))) (sRet (eTup (aCons (eC (.str 2)) (aCons (eMeth [(0, m_Layout_epoch_slot)] [] (eVar 1) (aCons (eOp fIx (eFld (eVar 0) [(7, 2)]) (eC (.int 0))) aNil)) aNil)))) sPass) (sSeq (sIf (eTest (eOp fEqA (eFld (eVar 0) [(7, 3)]) (eC (.str 29)))) (sRet (eTup (aCons (eC (.str 4)) (aCons (eMeth [(0, m_Layout_epoch)] [] (eVar 1) aNil) (aCons (eFld (eVar 0) [(7, 1)]) (aCons (eOp (fAdd true) (eFld (eVar 0) [(7, 1)]) (eC (.int 1))) aNil)))))) sPass) (sRet (eTup (aCons (eC (.str 14)) (aCons (eC .non) aNil)))))))))
def m_Leaving_request : F1 := runDefT 2 1 b_Leaving_request
def b_Stack_settle_l1 : SM := (sSeq (sSet 1 (eMeth [(6, m_Entering_request), (7, m_Leaving_request)] [] (eOp fIx (eFld (eVar 0) [(3, 0)]) (eNeg (eC (.int 1)))) aNil)) (sIf (eTest (eOp fEqA (eOp fIx (eVar 1) (eC (.int 0))) (eC (.str 19)))) (sEx (eApp (eFld (eVar 0) [(3, 0)]) (eOp fIx (eVar 1) (eC (.int 1))))) (sIf (eTest (eOp fEqA (eOp fIx (eVar 1) (eC (.int 0))) (eC (.str 14)))) (sSeq (sEx (ePop (eFld (eVar 0) [(3, 0)]))) (sEx (eMeth [(3, m_Stack_pass_on)] [] (eVar 0) (aCons (eOp fIx (eVar 1) (eC (.int 1))) aNil)))) sRetN)))
def b_Stack_settle : SM := (sWhile (eTruth (eFld (eVar 0) [(3, 0)])) b_Stack_settle_l1 1000)
def m_Stack_settle : F1 := runDef 2 1 b_Stack_settle
def b_Layout_call_slot : SM := (sRet (eOp (fAdd true) (eOp (fAdd true) (eC (.int 1)) (eFld (eVar 0) [(0, 0)])) (eVar 1)))
def m_Layout_call_slot : F1 := runDefT 2 2 b_Layout_call_slot
def b_Layout_record : SM := (sRet (eOp (fAdd true) (eOp (fAdd true) (eOp (fAdd true) (eC (.int 1)) (eOp (fMul true) (eC (.int 2)) (eFld (eVar 0) [(0, 0)]))) (eFld (eVar 0) [(0, 1)])) (eVar 1)))
def m_Layout_record : F1 := runDefT 2 2 b_Layout_record
def b_Layout_cells : SM := (sRet (eMeth [(0, m_Layout_record)] [] (eVar 0) (aCons (eFld (eVar 0) [(0, 2)]) aNil)))
def m_Layout_cells : F1 := runDefT 1 1 b_Layout_cells
def b_Layout_is_lasting : SM := (sRet (eChain fLe fLt (eMeth [(0, m_Layout_call_slot)] [] (eVar 0) (aCons (eC (.int 0)) aNil)) (eVar 1) (eMeth [(0, m_Layout_cells)] [] (eVar 0) aNil)))
def m_Layout_is_lasting : F1 := runDefT 2 2 b_Layout_is_lasting
def b_Memory_give : SM := (sIf (eTruth (eMeth [(0, m_Layout_is_lasting)] [] (eFld (eVar 0) [(1, 0)]) (aCons (eVar 1) aNil))) (sEx (eApp (eOp fIx (eFld (eVar 0) [(1, 3)]) (eVar 1)) (eVar 2))) (sPut (eFld (eVar 0) [(1, 3)]) (eVar 1) (eLst false (aCons (eVar 2) aNil))))
def m_Memory_give : F1 := runDef 3 3 b_Memory_give
def b_Memory_shorten_l1 : SM := (sIf (eTest (eOp (fInA false) (eVar 1) (eVar 3))) (sPut (eVar 3) (eVar 1) (eCall bMax (aCons (eC (.int 0)) (aCons (eOp fSub (eOp fIx (eVar 3) (eVar 1)) (eVar 2)) aNil)))) sPass)
def b_Memory_shorten : SM := (sSeq (sSet 2 (eCall bMax (aCons (eC (.int 0)) (aCons (eCall bMin (aCons (eVar 2) (aCons (eOp fSub (eCall bLen (aCons (eOp fIx (eFld (eVar 0) [(1, 3)]) (eVar 1)) aNil)) (eC (.int 1))) aNil))) aNil)))) (sSeq (sPut (eFld (eVar 0) [(1, 3)]) (eVar 1) (eSl false (eOp fIx (eFld (eVar 0) [(1, 3)]) (eVar 1)) (oSome (eVar 2)) oNone)) (sForA (eFld (eVar 0) [(1, 4)]) (.nm 3) b_Memory_shorten_l1)))
def m_Memory_shorten : F1 := runDef 4 3 b_Memory_shorten
def b_Memory_fence_l1 : SM := (sEx (eMeth [(1, m_Memory_shorten)] [] (eVar 0) (aCons (eVar 3) (aCons (eOp fIx (eVar 2) (eVar 3)) aNil))))
def b_Memory_fence : SM := (sSeq (sSet 2 (eOp fIx (eFld (eVar 0) [(1, 4)]) (eVar 1))) (sSeq (sPut (eFld (eVar 0) [(1, 4)]) (eVar 1) (eDic0 false)) (sForA (eCall bSortX (aCons (eVar 2) aNil)) (.nm 3) b_Memory_fence_l1)))
def m_Memory_fence : F1 := runDef 4 2 b_Memory_fence
def b_Memory_result : SM := (sSeq (sSet 3 (eOp fIx (eVar 2) (eC (.int 0)))) (sSeq (sIf (eTest (eOp fEqA (eVar 3) (eC (.str 7)))) (sRet (eMeth [(1, m_Memory_fence)] [] (eVar 0) (aCons (eVar 1) aNil))) sPass) (sSeq (sSet 4 (eOp fIx (eVar 2) (eC (.int 1)))) (sSeq (sIf (eTest (eOp fEqA (eVar 3) (eC (.str 6)))) (sSeq (sPut (eOp fIx (eFld (eVar 0) [(1, 4)]) (eVar 1)) (eVar 4) (eOp fSub (eCall bLen (aCons (eOp fIx (eFld (eVar 0) [(1, 3)]) (eVar 4)) aNil)) (eC (.int 1)))) (sRet (eC .non))) sPass) (sSeq (sSet 5 (eOp fIx (eOp fIx (eFld (eVar 0) [(1, 3)]) (eVar 4)) (eNeg (eC (.int 1))))) (sSeq (sIf (eTest (eOp fEqA (eVar 3) (eC (.str 2)))) (sRet (eVar 5)) sPass) (sSeq (sIf (eTest (eOp fEqA (eVar 3) (eC (.str 3)))) (sSeq (sEx (eMeth [(1, m_Memory_give)] [] (eVar 0) (aCons (eVar 4) (aCons (eOp fIx (eVar 2) (eC (.int 2))) aNil)))) (sRet (eC .non))) sPass) (sSeq (sIf (eTest (eOp fEqA (eVar 3) (eC (.str 4)))) (sSeq (sIf (eTest (eOp fNeA (eVar 5) (eOp fIx (eVar 2) (eC (.int 2))))) (sRet (eC (.bl false))) sPass) (sSeq (sEx (eMeth [(1, m_Memory_give)] [] (eVar 0) (aCons (eVar 4) (aCons (eOp fIx (eVar 2) (eC (.int 3))) aNil)))) (sRet (eC (.bl true))))) sPass) (sSeq (sIf (eTest (eOp fNeA (eVar 5) (eC (.int 0)))) (sRet (eC (.bl false))) sPass) (sSeq (sEx (eMeth [(1, m_Memory_give)] [] (eVar 0) (aCons (eVar 4) (aCons (eTup (aCons (eOp fIx (eVar 2) (eC (.int 2))) (aCons (eFld (eVar 0) [(1, 1)]) aNil))) aNil)))) (sRet (eC (.bl true)))))))))))))
def m_Memory_result : F1 := runDef 6 3 b_Memory_result
def b_is_within : SM := (sRet (eAnd (eIsi "int" (eVar 0)) (eAnd (eNot (eIsi "bool" (eVar 0))) (eChain fLe fLe (eVar 1) (eVar 0) (eVar 2)))))
def m_is_within : F1 := runDefT 3 3 b_is_within
def b_Memory_check_cell : SM := (sIf (tNot1 (eTruth (eCallF m_is_within [] (aCons (eVar 1) (aCons (eC (.int 0)) (aCons (eOp fSub (eCall bLen (aCons (eFld (eVar 0) [(1, 3)]) aNil)) (eC (.int 1))) aNil)))))) sNever sPass)
def m_Memory_check_cell : F1 := runDef 2 2 b_Memory_check_cell
def b_Memory_check_lasting : SM := (sSeq (sEx (eMeth [(1, m_Memory_check_cell)] [] (eVar 0) (aCons (eVar 1) aNil))) (sIf (tNot1 (eTruth (eMeth [(0, m_Layout_is_lasting)] [] (eFld (eVar 0) [(1, 0)]) (aCons (eVar 1) aNil)))) sNever sPass))
def m_Memory_check_lasting : F1 := runDef 2 2 b_Memory_check_lasting
def b_Memory_check_request : SM := (sSeq (sIf (tOr1 (tNot1 (eTruth (eCallF m_is_within [] (aCons (eVar 1) (aCons (eC (.int 0)) (aCons (eOp fSub (eFld (eFld (eVar 0) [(1, 0)]) [(0, 0)]) (eC (.int 1))) aNil)))))) (tOr1 (tNot1 (eTruth (eIsi "tuple" (eVar 2)))) (eTest (eOp fEqA (eCall bLen (aCons (eVar 2) aNil)) (eC (.int 0)))))) sNever sPass) (sSeq (sIf (eTest (eOp fNeA (eKget [(2, (.int (2))), (3, (.int (3))), (4, (.int (4))), (5, (.int (3))), (6, (.int (2))), (7, (.int (1)))] 64 (eOp fIx (eVar 2) (eC (.int 0)))) (eCall bLen (aCons (eVar 2) aNil)))) sNever sPass) (sIf (eTest (eOp fEqA (eOp fIx (eVar 2) (eC (.int 0))) (eC (.str 6)))) (sEx (eMeth [(1, m_Memory_check_lasting)] [] (eVar 0) (aCons (eOp fIx (eVar 2) (eC (.int 1))) aNil))) (sIf (eTest (eOp fNeA (eOp fIx (eVar 2) (eC (.int 0))) (eC (.str 7)))) (sEx (eMeth [(1, m_Memory_check_cell)] [] (eVar 0) (aCons (eOp fIx (eVar 2) (eC (.int 1))) aNil))) sPass))))
def m_Memory_check_request : F1 := runDef 3 3 b_Memory_check_request
def b_Memory_access : SM := (sSeq (sEx (eMeth [(1, m_Memory_check_request)] [] (eVar 0) (aCons (eVar 1) (aCons (eVar 2) aNil)))) (sSeq (sFldAug1 1 1 (eVar 0) (eC (.int 1))) (sSeq (sEx (eApp (eFld (eVar 0) [(1, 2)]) (eTup (aCons (eFld (eVar 0) [(1, 1)]) (aCons (eVar 1) (aCons (eVar 2) aNil)))))) (sRet (eTup (aCons (eMeth [(1, m_Memory_result)] [] (eVar 0) (aCons (eVar 1) (aCons (eVar 2) aNil))) (aCons (eFld (eVar 0) [(1, 1)]) aNil)))))))
def m_Memory_access : F1 := runDef 3 3 b_Memory_access
def b_Stack_step : SM := (sSeq (sEx (eMeth [(3, m_Stack_settle)] [] (eVar 0) aNil)) (sSeq (sIf (tNot1 (eTruth (eFld (eVar 0) [(3, 0)]))) (sRet (eC (.bl false))) sPass) (sSeq (sSet 3 (eOp fIx (eFld (eVar 0) [(3, 0)]) (eNeg (eC (.int 1))))) (sSeq (sEx (eMeth [(6, m_Entering_accept), (7, m_Leaving_accept)] [] (eVar 3) (aCons (eMeth [(1, m_Memory_access)] [] (eVar 1) (aCons (eVar 2) (aCons (eMeth [(6, m_Entering_request), (7, m_Leaving_request)] [] (eVar 3) aNil) aNil))) aNil))) (sSeq (sEx (eMeth [(3, m_Stack_settle)] [] (eVar 0) aNil)) (sRet (eC (.bl true))))))))
def m_Stack_step : F1 := runDef 4 3 b_Stack_step
def b__law_alone_l1 : SM := (sIf (tNot1 (eTruth (eMeth [(3, m_Stack_step)] [] (eVar 5) (aCons (eVar 0) (aCons (eVar 2) aNil))))) sBrk sPass)
def b_Stack_init : SM := (sSeq (sFld1 3 0 (eVar 0) (eLst false (aCons (eVar 1) aNil))) (sFld1 3 1 (eVar 0) (eC .non)))
def m_Stack_init : F1 := runDef 2 2 b_Stack_init
def b__law_alone_l2 : SM := (sSeq (sSet 5 (eMake 3 m_Stack_init [] (aCons (eVar 4) aNil))) (sSeq (sForR rng1 (aCons (eC (.int 30)) aNil) (.nm 6) b__law_alone_l1) (sIf (tNot1 (eTruth (eMeth [(3, m_Stack_ended)] [] (eVar 5) aNil))) (sRet (eC (.bl false))) sPass)))
def b_Leaving_init : SM := (sSeq (sFld1 7 0 (eVar 0) (eVar 1)) (sSeq (sFld1 7 1 (eVar 0) (eC .non)) (sSeq (sFld1 7 2 (eVar 0) (eLcFR true rng1 (aCons (eFld (eFld (eVar 1) [(5, 0), (1, 0)]) [(0, 0)]) aNil) (.nm 2) (eTest (eOp fNeA (eVar 2) (eFld (eVar 1) [(5, 1)]))) (eVar 2) [2])) (sSeq (sFld1 7 3 (eVar 0) (eC (.str 28))) (sIf (eTruth (eFld (eVar 1) [(5, 3)])) (sFld1 7 3 (eVar 0) (eC (.str 30))) sPass)))))
def m_Leaving_init : F1 := runDef 3 2 b_Leaving_init
def b_Entering_init : SM := (sSeq (sFld1 6 0 (eVar 0) (eMeth [(0, m_Layout_epoch)] [] (eFld (eVar 1) [(5, 0), (1, 0)]) aNil)) (sSeq (sFld1 6 1 (eVar 0) (eMeth [(0, m_Layout_epoch_slot)] [] (eFld (eVar 1) [(5, 0), (1, 0)]) (aCons (eFld (eVar 1) [(5, 1)]) aNil))) (sSeq (sFld1 6 2 (eVar 0) (eC (.str 2))) (sFld1 6 3 (eVar 0) (eC .non)))))
def m_Entering_init : F1 := runDef 2 2 b_Entering_init
def b__law_alone_l3 : SM := (sForA (eLst true (aCons (eMake 6 m_Entering_init [] (aCons (eVar 1) aNil)) (aCons (eMake 7 m_Leaving_init [] (aCons (eVar 1) aNil)) aNil))) (.nm 4) b__law_alone_l2)
def b__law_alone : SM := (sSeq (sForR rng1 (aCons (eC (.int 4)) aNil) (.nm 3) b__law_alone_l3) (sRet (eOp fEqA (eMeth [(5, m_Store_waiting)] [] (eVar 1) aNil) (eLst true aNil))))
def m__law_alone : F1 := runDef 7 3 b__law_alone
def b_Memory_peek : SM := (sSeq (sEx (eMeth [(1, m_Memory_check_cell)] [] (eVar 0) (aCons (eVar 1) aNil))) (sRet (eOp fIx (eOp fIx (eFld (eVar 0) [(1, 3)]) (eVar 1)) (eNeg (eC (.int 1))))))
def m_Memory_peek : F1 := runDef 2 2 b_Memory_peek
def b_law_l1 : SM := (sSeq (sSet 18 (eLcFR true rng1 (aCons (eVar 2) aNil) (.nm 13) (tAnd1 (eTest (eOp fNeA (eVar 13) (eVar 14))) (eTest (eOp fIsNot (eMeth [(1, m_Memory_peek)] [] (eVar 3) (aCons (eOp (fAdd true) (eC (.int 1)) (eVar 13)) aNil)) (eC .non)))) (eVar 13) [13])) (sIf (tAnd1 (eTest (eOp fEqA (eVar 18) (eLst true aNil))) (eTest (eOp fEqA (eOp fIx (eVar 7) (eVar 14)) (eC (.str 33))))) (sIf (tNot1 (eTruth (eCallF m__law_alone [] (aCons (eVar 3) (aCons (eOp fIx (eVar 4) (eVar 14)) (aCons (eVar 14) aNil)))))) (sRet (eC (.bl false))) sPass) sPass))
def b__law_slots_l1 : SM := (sSeq (sSet 4 (eMeth [(1, m_Memory_peek)] [] (eVar 0) (aCons (eC (.int 0)) aNil))) (sSeq (sSet 5 (eMeth [(1, m_Memory_peek)] [] (eVar 0) (aCons (eOp (fAdd true) (eC (.int 1)) (eOp fIx (eVar 3) (eC (.int 0)))) aNil))) (sIf (tOr1 (eTest (eOp fNeA (eVar 5) (eOp fIx (eVar 2) (eOp fIx (eVar 3) (eC (.int 0)))))) (tOr1 (eTest (eOp fLt (eVar 4) (eVar 5))) (eTest (eOp fGt (eVar 4) (eOp (fAdd true) (eVar 5) (eC (.int 1))))))) (sRet (eC (.bl false))) sPass)))
def b__law_slots : SM := (sSeq (sForA (eVar 1) (.nm 3) b__law_slots_l1) (sRet (eC (.bl true))))
def m__law_slots : F1 := runDef 6 3 b__law_slots
def b__law_whole_l1 : SM := (sSet 2 (eOp (fAdd true) (eVar 2) (eOp fIx (eVar 3) (eC (.int 1)))))
def b_Store_free_cells : SM := (sRet (eCall (bListA true) (aCons (eFld (eVar 0) [(5, 2)]) aNil)))
def m_Store_free_cells : F1 := runDefT 1 1 b_Store_free_cells
def b__law_whole : SM := (sSeq (sSet 2 (eCall (bListA true) (aCons (eMeth [(5, m_Store_free_cells)] [] (eVar 0) aNil) aNil))) (sSeq (sForA (eMeth [(5, m_Store_waiting)] [] (eVar 0) aNil) (.nm 3) b__law_whole_l1) (sRet (eOp fEqA (eCall bSortX (aCons (eVar 2) aNil)) (eVar 1)))))
def m__law_whole : F1 := runDefT 4 2 b__law_whole
def b__law_held_l1 : SM := (sIf (tOr1 (eTest (eOp (fInA false) (eVar 5) (eOp fIx (eVar 4) (eC (.int 1))))) (eTest (eOp (fInA false) (eVar 5) (eOp fIx (eVar 4) (eC (.int 2)))))) (sRet (eC (.bl false))) sPass)
def b__law_held_l2 : SM := (sIf (eTest (eOp (fInA false) (eOp fIx (eVar 4) (eC (.int 0))) (eVar 3))) (sForA (eVar 2) (.nm 5) b__law_held_l1) sPass)
def b__law_held : SM := (sSeq (sSet 3 (eMeth [(5, m_Store_free_cells)] [] (eVar 0) aNil)) (sSeq (sForA (eVar 1) (.nm 4) b__law_held_l2) (sRet (eC (.bl true)))))
def m__law_held : F1 := runDefT 6 3 b__law_held
def b__law_known_l1 : SM := (sIf (eTest (eOp (fInA true) (eVar 4) (eOp fIx (eVar 2) (eC (.int 2))))) (sEx (eApp (eOp fIx (eVar 2) (eC (.int 2))) (eVar 4))) sPass)
def b__law_known_l2 : SM := (sSeq (sSet 3 (eLcF true (eOp fIx (eVar 2) (eC (.int 1))) (.nm 4) (eTest (eOp (fInA false) (eVar 4) (eVar 1))) (eVar 4) [4])) (sIf (eTest (eOp fGt (eCall bLen (aCons (eVar 3) aNil)) (eC (.int 0)))) (sForA (eVar 1) (.nm 4) b__law_known_l1) sPass))
def b__law_known : SM := (sForA (eVar 0) (.nm 2) b__law_known_l2)
def m__law_known : F1 := runDef 5 2 b__law_known
def b_law_l2 : SM := (sSeq (sEx (eCallF m__law_known [] (aCons (eOp fIx (eVar 12) (eVar 17)) (aCons (eVar 10) aNil)))) (sIf (tOr1 (tNot1 (eTruth (eCallF m__law_held [] (aCons (eOp fIx (eVar 4) (eVar 17)) (aCons (eOp fIx (eVar 12) (eVar 17)) (aCons (eVar 10) aNil)))))) (tNot1 (eTruth (eCallF m__law_whole [] (aCons (eOp fIx (eVar 4) (eVar 17)) (aCons (eOp fIx (eVar 5) (eVar 17)) aNil)))))) (sRet (eC (.bl false))) sPass))
def b_Store_take_out : SM := (sFld1 5 3 (eVar 0) (eOp (fAdd true) (eFld (eVar 0) [(5, 3)]) (eCall (bListA true) (aCons (eVar 1) aNil))))
def m_Store_take_out : F1 := runDef 2 2 b_Store_take_out
def b_Store_take : SM := (sSeq (sIf (eTest (eOp fGt (eVar 1) (eCall bLen (aCons (eFld (eVar 0) [(5, 2)]) aNil)))) (sRet (eC .non)) sPass) (sSeq (sSet 2 (eSl true (eFld (eVar 0) [(5, 2)]) oNone (oSome (eVar 1)))) (sSeq (sFld1 5 2 (eVar 0) (eSl true (eFld (eVar 0) [(5, 2)]) (oSome (eVar 1)) oNone)) (sRet (eVar 2)))))
def m_Store_take : F1 := runDef 3 2 b_Store_take
def b_Layout_word : SM := (sRet (eOp (fAdd true) (eOp (fAdd true) (eC (.int 1)) (eOp (fMul true) (eC (.int 2)) (eFld (eVar 0) [(0, 0)]))) (eVar 1)))
def m_Layout_word : F1 := runDefT 2 2 b_Layout_word
def b_Memory_log : SM := (sRet (eCall (bListA true) (aCons (eFld (eVar 0) [(1, 2)]) aNil)))
def m_Memory_log : F1 := runDefT 1 1 b_Memory_log
def b__law_at : SM := (sSeq (sIf (eTest (eOp fLt (eVar 1) (eCall bLen (aCons (eVar 0) aNil)))) (sRet (eOp fIx (eVar 0) (eVar 1))) sPass) (sRet (eC (.int 0))))
def m__law_at : F1 := runDefT 2 2 b__law_at
def b_law_l3 : SM := (sSeq (sSet 15 (eCallF m__law_at [] (aCons (eVar 1) (aCons (eOp (fAdd true) (eVar 13) (eC (.int 1))) aNil)))) (sSeq (sSet 14 (eOp fMod (eVar 15) (eVar 2))) (sSeq (sSet 16 (eOp fIx (eVar 4) (eVar 14))) (sSeq (sIf (eTest (eOp fEqA (eOp fIx (eVar 7) (eVar 14)) (eC (.str 34)))) (sSeq (sEx (eMeth [(1, m_Memory_access)] [] (eVar 3) (aCons (eVar 14) (aCons (eTup (aCons (eC (.str 2)) (aCons (eMeth [(0, m_Layout_word)] [] (eFld (eVar 3) [(5, 0), (1, 0)]) (aCons (eC (.int 0)) aNil)) aNil))) aNil)))) (sSeq (sPut (eVar 8) (eVar 14) (eOp fSub (eOp fIx (eVar 8) (eVar 14)) (eC (.int 1)))) (sSeq (sIf (eTest (eOp fEqA (eOp fMod (eOp fDiv (eVar 15) (eC (.int 4))) (eC (.int 3))) (eC (.int 0)))) (sSeq (sSet 21 (eMeth [(5, m_Store_take)] [] (eVar 16) (aCons (eCall bMin (aCons (eOp fMod (eOp fDiv (eVar 15) (eC (.int 12))) (eC (.int 5))) (aCons (eCall bLen (aCons (eMeth [(5, m_Store_free_cells)] [] (eVar 16) aNil) aNil)) aNil))) aNil))) (sSeq (sEx (eMeth [(5, m_Store_take_out)] [] (eVar 16) (aCons (eVar 21) aNil))) (sSeq (sPut (eVar 12) (eVar 14) (eLcF true (eOp fIx (eVar 12) (eVar 14)) (.nm 23) (eTest (eOp (fInA true) (eOp fIx (eVar 23) (eC (.int 0))) (eVar 21))) (eVar 23) [23])) (sPut (eVar 12) (eVar 14) (eOp (fAdd true) (eOp fIx (eVar 12) (eVar 14)) (eLcF true (eVar 21) (.nm 25) tTrue (eLst true (aCons (eVar 25) (aCons (eCall (bListA false) (aCons (eVar 10) aNil)) (aCons (eCall (bListA false) (aCons (eVar 10) aNil)) aNil)))) [25])))))) sPass) (sIf (eTest (eOp fLe (eOp fIx (eVar 8) (eVar 14)) (eC (.int 0)))) (sSeq (sPut (eVar 7) (eVar 14) (eC (.str 35))) (sPut (eVar 6) (eVar 14) (eMake 3 m_Stack_init [] (aCons (eMake 7 m_Leaving_init [] (aCons (eVar 16) aNil)) aNil)))) sPass)))) (sSeq (sIf (eTest (eOp fEqA (eOp fIx (eVar 7) (eVar 14)) (eC (.str 33)))) (sSeq (sPut (eVar 7) (eVar 14) (eC (.str 36))) (sPut (eVar 6) (eVar 14) (eMake 3 m_Stack_init [] (aCons (eMake 6 m_Entering_init [] (aCons (eVar 16) aNil)) aNil)))) sPass) (sSeq (sSet 19 (eMeth [(1, m_Memory_peek)] [] (eVar 3) (aCons (eOp (fAdd true) (eC (.int 1)) (eVar 14)) aNil))) (sSeq (sSet 20 (eMeth [(3, m_Stack_step)] [] (eOp fIx (eVar 6) (eVar 14)) (aCons (eVar 3) (aCons (eVar 14) aNil)))) (sSeq (sIf (tAnd1 (eTest (eOp fEqA (eOp fIx (eVar 7) (eVar 14)) (eC (.str 35)))) (tAnd1 (eTest (eOp fIsNot (eVar 19) (eC .non))) (eTest (eOp fIs (eMeth [(1, m_Memory_peek)] [] (eVar 3) (aCons (eOp (fAdd true) (eC (.int 1)) (eVar 14)) aNil)) (eC .non))))) (sSet 10 (eLcF true (eVar 10) (.nm 24) (eTest (eOp fNeA (eOp fIx (eVar 24) (eC (.int 0))) (eVar 14))) (eVar 24) [24])) sPass) (sSeq (sIf (tAnd1 (tNot1 (eTruth (eVar 20))) (eTest (eOp fEqA (eOp fIx (eVar 7) (eVar 14)) (eC (.str 36))))) (sSeq (sPut (eVar 7) (eVar 14) (eC (.str 34))) (sPut (eVar 8) (eVar 14) (eOp (fAdd true) (eC (.int 1)) (eOp fMod (eOp fDiv (eVar 15) (eC (.int 4))) (eC (.int 6)))))) (sIf (tNot1 (eTruth (eVar 20))) (sPut (eVar 7) (eVar 14) (eC (.str 33))) sPass)) (sIf (tAnd1 (eTest (eOp fEqA (eOp fIx (eVar 7) (eVar 14)) (eC (.str 36)))) (tAnd1 (eTest (eOp fEqA (eOp fIx (eOp fIx (eOp fIx (eMeth [(1, m_Memory_log)] [] (eVar 3) aNil) (eNeg (eC (.int 1)))) (eC (.int 2))) (eC (.int 0))) (eC (.str 2)))) (eTest (eOp fIsNot (eMeth [(1, m_Memory_peek)] [] (eVar 3) (aCons (eOp (fAdd true) (eC (.int 1)) (eVar 14)) aNil)) (eC .non))))) (sSeq (sSet 22 (eMeth [(1, m_Memory_peek)] [] (eVar 3) (aCons (eC (.int 0)) aNil))) (sIf (tAnd1 (eTest (eOp fEqA (eVar 19) (eVar 22))) (eTest (eOp fEqA (eLcF true (eVar 10) (.nm 24) (eTest (eOp fEqA (eOp fIx (eVar 24) (eC (.int 0))) (eVar 14))) (eVar 24) [24]) (eLst true aNil)))) (sSeq (sSet 11 (eOp (fAdd true) (eVar 11) (eC (.int 1)))) (sSeq (sPut (eVar 9) (eVar 14) (eVar 22)) (sSet 10 (eOp (fAdd true) (eVar 10) (eLst true (aCons (eTup (aCons (eVar 14) (aCons (eVar 11) aNil))) aNil)))))) sPass)) sPass))))))) (sSeq (sForR rng1 (aCons (eVar 2) aNil) (.nm 17) b_law_l2) (sIf (tNot1 (eTruth (eCallF m__law_slots [] (aCons (eVar 3) (aCons (eVar 10) (aCons (eVar 9) aNil)))))) (sRet (eC (.bl false))) sPass))))))
def b_Store_init : SM := (sSeq (sFld1 5 0 (eVar 0) (eVar 1)) (sSeq (sFld1 5 1 (eVar 0) (eVar 2)) (sSeq (sFld1 5 2 (eVar 0) (eCall bSortX (aCons (eVar 3) aNil))) (sSeq (sFld1 5 3 (eVar 0) (eLst true aNil)) (sFld1 5 4 (eVar 0) (eLst false aNil))))))
def m_Store_init : F1 := runDef 4 4 b_Store_init
def b_divided : SM := (sRet (eCall bSortX (aCons (eLcF true (eVar 1) (.nm 3) (eTest (eOp fEqA (eOp fMod (eOp fSub (eVar 3) (eMeth [(0, m_Layout_record)] [] (eVar 0) (aCons (eC (.int 0)) aNil))) (eFld (eVar 0) [(0, 0)])) (eVar 2))) (eVar 3) [3]) aNil)))
def m_divided : F1 := runDefT 4 3 b_divided
def b__law_store : SM := (sSeq (sSet 2 (eLcFR true rng2 (aCons (eC (.int 3)) (aCons (eFld (eVar 0) [(0, 2)]) aNil)) (.nm 3) tTrue (eMeth [(0, m_Layout_record)] [] (eVar 0) (aCons (eVar 3) aNil)) [3])) (sRet (eMake 5 m_Store_init [] (aCons (eVar 0) (aCons (eVar 1) (aCons (eCallF m_divided [] (aCons (eVar 0) (aCons (eVar 2) (aCons (eVar 1) aNil)))) aNil))))))
def m__law_store : F1 := runDef 4 2 b__law_store
def b_Memory_no_notes : SM := (sRet (eLcFR false rng1 (aCons (eFld (eFld (eVar 0) [(1, 0)]) [(0, 0)]) aNil) (.nm 1) tTrue (eDic0 false) [1]))
def m_Memory_no_notes : F1 := runDef 2 1 b_Memory_no_notes
def b_Memory_init_l1 : SM := (sSeq (sPut (eFld (eVar 0) [(1, 3)]) (eMeth [(0, m_Layout_word)] [] (eVar 1) (aCons (eVar 2) aNil)) (eLst false (aCons (eMeth [(0, m_Layout_record)] [] (eVar 1) (aCons (eVar 2) aNil)) aNil))) (sPut (eFld (eVar 0) [(1, 3)]) (eMeth [(0, m_Layout_record)] [] (eVar 1) (aCons (eVar 2) aNil)) (eLst false (aCons (eTup (aCons (eC (.str 1)) (aCons (eTup aNil) aNil))) aNil))))
def b_Memory_init : SM := (sSeq (sFld1 1 0 (eVar 0) (eVar 1)) (sSeq (sFld1 1 1 (eVar 0) (eC (.int 0))) (sSeq (sFld1 1 2 (eVar 0) (eLst false aNil)) (sSeq (sFld1 1 3 (eVar 0) (eLcFR false rng1 (aCons (eMeth [(0, m_Layout_cells)] [] (eVar 1) aNil) aNil) (.nm 3) tTrue (eLst false (aCons (eC .non) aNil)) [3])) (sSeq (sPut (eFld (eVar 0) [(1, 3)]) (eMeth [(0, m_Layout_epoch)] [] (eVar 1) aNil) (eLst false (aCons (eC (.int 0)) aNil))) (sSeq (sForR rng1 (aCons (eFld (eVar 1) [(0, 1)]) aNil) (.nm 2) b_Memory_init_l1) (sFld1 1 4 (eVar 0) (eMeth [(1, m_Memory_no_notes)] [] (eVar 0) aNil))))))))
def m_Memory_init : F1 := runDef 4 2 b_Memory_init
def b_Layout_init : SM := (sSeq (sIf (tOr1 (tNot1 (eTruth (eCallF m_is_within [] (aCons (eVar 1) (aCons (eC (.int 1)) (aCons (eC (.int 3)) aNil)))))) (tNot1 (eTruth (eCallF m_is_within [] (aCons (eVar 2) (aCons (eC (.int 1)) (aCons (eC (.int 4)) aNil))))))) sNever sPass) (sSeq (sIf (tNot1 (eTruth (eCallF m_is_within [] (aCons (eVar 3) (aCons (eC (.int 4)) (aCons (eC (.int 200)) aNil)))))) sNever sPass) (sSeq (sFld1 0 0 (eVar 0) (eVar 1)) (sSeq (sFld1 0 1 (eVar 0) (eVar 2)) (sFld1 0 2 (eVar 0) (eVar 3))))))
def m_Layout_init : F1 := runDef 4 4 b_Layout_init
def b__law_tape_l1 : SM := (sIf (eTest (eOp fGt (eVar 3) (eC (.int 0)))) (sSeq (sEx (eApp (eVar 1) (eOp fMod (eVar 3) (eC (.int 1000))))) (sSet 3 (eOp fDiv (eVar 3) (eC (.int 1000))))) sPass)
def b__law_tape_l2 : SM := (sSeq (sSet 3 (eOp fMod (eOp (fAdd true) (eOp (fAdd true) (eOp (fMul true) (eVar 3) (eC (.int 48271))) (eOp (fMul true) (eC (.int 69621)) (eOp (fAdd true) (eVar 2) (eC (.int 1))))) (eOp (fMul true) (eC (.int 7)) (eVar 4))) (eC (.int 2147483647)))) (sSeq (sSet 3 (eOp fMod (eOp (fMul true) (eVar 3) (eC (.int 16807))) (eC (.int 2147483647)))) (sEx (eApp (eVar 1) (eOp fMod (eOp fDiv (eVar 3) (eC (.int 1000))) (eC (.int 1000)))))))
def b__law_tape_l3 : SM := (sSeq (sSet 3 (eCall bAbs (aCons (eCall bInt (aCons (eOp fIx (eVar 0) (eVar 2)) aNil)) aNil))) (sIf (eTest (eOp fGe (eVar 3) (eOp fPow (eC (.int 10)) (eC (.int 18))))) (sForR rng1 (aCons (eC (.int 60)) aNil) (.nm 4) b__law_tape_l1) (sForR rng1 (aCons (eC (.int 4)) aNil) (.nm 4) b__law_tape_l2)))
def b__law_tape : SM := (sSeq (sSet 1 (eLst false aNil)) (sSeq (sForR rng1 (aCons (eCall bLen (aCons (eVar 0) aNil)) aNil) (.nm 2) b__law_tape_l3) (sRet (eVar 1))))
def m__law_tape : F1 := runDefT 5 1 b__law_tape
def b_law : SM := (sSeq (sSet 1 (eCallF m__law_tape [] (aCons (eVar 0) aNil))) (sSeq (sSet 2 (eOp (fAdd true) (eC (.int 2)) (eOp fMod (eCallF m__law_at [] (aCons (eVar 1) (aCons (eC (.int 0)) aNil))) (eC (.int 2))))) (sSeq (sSet 3 (eMake 1 m_Memory_init [] (aCons (eMake 0 m_Layout_init [] (aCons (eVar 2) (aCons (eC (.int 3)) (aCons (eOp (fAdd true) (eC (.int 3)) (eOp (fMul true) (eC (.int 12)) (eVar 2))) aNil)))) aNil))) (sSeq (sSet 4 (eLcFR true rng1 (aCons (eVar 2) aNil) (.nm 14) tTrue (eCallF m__law_store [] (aCons (eFld (eVar 3) [(5, 0), (1, 0)]) (aCons (eVar 14) aNil))) [14])) (sSeq (sSet 5 (eLcF true (eVar 4) (.nm 16) tTrue (eMeth [(5, m_Store_free_cells)] [] (eVar 16) aNil) [16])) (sSeq (sSet 6 (eOp (fMul false) (eLst true (aCons (eC .non) aNil)) (eVar 2))) (sSeq (sSet 7 (eOp (fMul false) (eLst true (aCons (eC (.str 33)) aNil)) (eVar 2))) (sSeq (sSet 8 (eOp (fMul false) (eLst true (aCons (eC (.int 0)) aNil)) (eVar 2))) (sSeq (sSet 9 (eOp (fMul false) (eLst true (aCons (eC .non) aNil)) (eVar 2))) (sSeq (sSet 10 (eLst true aNil)) (sSeq (sSet 11 (eC (.int 0))) (sSeq (sSet 12 (eLcFR false rng1 (aCons (eVar 2) aNil) (.nm 14) tTrue (eLst true aNil) [14])) (sSeq (sForR rng1 (aCons (eCall bMin (aCons (eC (.int 200)) (aCons (eCall bMax (aCons (eC (.int 0)) (aCons (eOp fSub (eCall bLen (aCons (eVar 1) aNil)) (eC (.int 2))) aNil))) aNil))) aNil) (.nm 13) b_law_l3) (sSeq (sForR rng1 (aCons (eVar 2) aNil) (.nm 14) b_law_l1) (sRet (eC (.bl true)))))))))))))))))
def m_law : F1 := runDef 26 1 b_law
end
end Dk
namespace Dk
open PySem PySem.Spec PyProof.Rows L2 R1
def top (i : Nat) : Stmt := PySem.Challenge.pw_driftkept_k09_whole_epochs.main.body.getD i (.Pass ⟨0, 0, 0, 0⟩)
def d_Store_waiting : He.DefD := ⟨(("Store" : Str), some ("waiting" : Str)), ("waiting" : Str), ("Store.waiting" : Str), defArgs (inClass (top 6) 5), defBody (inClass (top 6) 5), defScope (inClass (top 6) 5), [], []⟩
def d_Stack_ended : He.DefD := ⟨(("Stack" : Str), some ("ended" : Str)), ("ended" : Str), ("Stack.ended" : Str), defArgs (inClass (top 2) 4), defBody (inClass (top 2) 4), defScope (inClass (top 2) 4), [], []⟩
def d_Entering_accept : He.DefD := ⟨(("Entering" : Str), some ("accept" : Str)), ("accept" : Str), ("Entering.accept" : Str), defArgs (inClass (top 7) 2), defBody (inClass (top 7) 2), defScope (inClass (top 7) 2), [], []⟩
def d_Store_stamp : He.DefD := ⟨(("Store" : Str), some ("stamp" : Str)), ("stamp" : Str), ("Store.stamp" : Str), defArgs (inClass (top 6) 6), defBody (inClass (top 6) 6), defScope (inClass (top 6) 6), [], []⟩
def d_Leaving_look_on : He.DefD := ⟨(("Leaving" : Str), some ("look_on" : Str)), ("look_on" : Str), ("Leaving.look_on" : Str), defArgs (inClass (top 8) 3), defBody (inClass (top 8) 3), defScope (inClass (top 8) 3), [], []⟩
def d_Store_give_back : He.DefD := ⟨(("Store" : Str), some ("give_back" : Str)), ("give_back" : Str), ("Store.give_back" : Str), defArgs (inClass (top 6) 2), defBody (inClass (top 6) 2), defScope (inClass (top 6) 2), [], []⟩
def d_Store_release : He.DefD := ⟨(("Store" : Str), some ("release" : Str)), ("release" : Str), ("Store.release" : Str), defArgs (inClass (top 6) 7), defBody (inClass (top 6) 7), defScope (inClass (top 6) 7), [], []⟩
def d_Leaving_finish : He.DefD := ⟨(("Leaving" : Str), some ("finish" : Str)), ("finish" : Str), ("Leaving.finish" : Str), defArgs (inClass (top 8) 5), defBody (inClass (top 8) 5), defScope (inClass (top 8) 5), [], []⟩
def d_Leaving_take_other : He.DefD := ⟨(("Leaving" : Str), some ("take_other" : Str)), ("take_other" : Str), ("Leaving.take_other" : Str), defArgs (inClass (top 8) 4), defBody (inClass (top 8) 4), defScope (inClass (top 8) 4), [], []⟩
def d_Leaving_accept : He.DefD := ⟨(("Leaving" : Str), some ("accept" : Str)), ("accept" : Str), ("Leaving.accept" : Str), defArgs (inClass (top 8) 2), defBody (inClass (top 8) 2), defScope (inClass (top 8) 2), [], []⟩
def d_Stack_pass_on : He.DefD := ⟨(("Stack" : Str), some ("pass_on" : Str)), ("pass_on" : Str), ("Stack.pass_on" : Str), defArgs (inClass (top 2) 2), defBody (inClass (top 2) 2), defScope (inClass (top 2) 2), [], []⟩
def d_Entering_request : He.DefD := ⟨(("Entering" : Str), some ("request" : Str)), ("request" : Str), ("Entering.request" : Str), defArgs (inClass (top 7) 1), defBody (inClass (top 7) 1), defScope (inClass (top 7) 1), [], []⟩
def d_Layout_epoch : He.DefD := ⟨(("Layout" : Str), some ("epoch" : Str)), ("epoch" : Str), ("Layout.epoch" : Str), defArgs (inClass (top 19) 1), defBody (inClass (top 19) 1), defScope (inClass (top 19) 1), [], []⟩
def d_Layout_epoch_slot : He.DefD := ⟨(("Layout" : Str), some ("epoch_slot" : Str)), ("epoch_slot" : Str), ("Layout.epoch_slot" : Str), defArgs (inClass (top 19) 2), defBody (inClass (top 19) 2), defScope (inClass (top 19) 2), [], []⟩
def d_Leaving_request : He.DefD := ⟨(("Leaving" : Str), some ("request" : Str)), ("request" : Str), ("Leaving.request" : Str), defArgs (inClass (top 8) 1), defBody (inClass (top 8) 1), defScope (inClass (top 8) 1), [], []⟩
def d_Stack_settle : He.DefD := ⟨(("Stack" : Str), some ("settle" : Str)), ("settle" : Str), ("Stack.settle" : Str), defArgs (inClass (top 2) 1), defBody (inClass (top 2) 1), defScope (inClass (top 2) 1), [], []⟩
def d_Layout_call_slot : He.DefD := ⟨(("Layout" : Str), some ("call_slot" : Str)), ("call_slot" : Str), ("Layout.call_slot" : Str), defArgs (inClass (top 19) 3), defBody (inClass (top 19) 3), defScope (inClass (top 19) 3), [], []⟩
def d_Layout_record : He.DefD := ⟨(("Layout" : Str), some ("record" : Str)), ("record" : Str), ("Layout.record" : Str), defArgs (inClass (top 19) 5), defBody (inClass (top 19) 5), defScope (inClass (top 19) 5), [], []⟩
def d_Layout_cells : He.DefD := ⟨(("Layout" : Str), some ("cells" : Str)), ("cells" : Str), ("Layout.cells" : Str), defArgs (inClass (top 19) 6), defBody (inClass (top 19) 6), defScope (inClass (top 19) 6), [], []⟩
def d_Layout_is_lasting : He.DefD := ⟨(("Layout" : Str), some ("is_lasting" : Str)), ("is_lasting" : Str), ("Layout.is_lasting" : Str), defArgs (inClass (top 19) 8), defBody (inClass (top 19) 8), defScope (inClass (top 19) 8), [], []⟩
def d_Memory_give : He.DefD := ⟨(("Memory" : Str), some ("give" : Str)), ("give" : Str), ("Memory.give" : Str), defArgs (inClass (top 20) 7), defBody (inClass (top 20) 7), defScope (inClass (top 20) 7), [], []⟩
def d_Memory_shorten : He.DefD := ⟨(("Memory" : Str), some ("shorten" : Str)), ("shorten" : Str), ("Memory.shorten" : Str), defArgs (inClass (top 20) 9), defBody (inClass (top 20) 9), defScope (inClass (top 20) 9), [], []⟩
def d_Memory_fence : He.DefD := ⟨(("Memory" : Str), some ("fence" : Str)), ("fence" : Str), ("Memory.fence" : Str), defArgs (inClass (top 20) 8), defBody (inClass (top 20) 8), defScope (inClass (top 20) 8), [], []⟩
def d_Memory_result : He.DefD := ⟨(("Memory" : Str), some ("result" : Str)), ("result" : Str), ("Memory.result" : Str), defArgs (inClass (top 20) 6), defBody (inClass (top 20) 6), defScope (inClass (top 20) 6), [], []⟩
def d_is_within : He.DefD := ⟨(("is_within" : Str), none), ("is_within" : Str), ("is_within" : Str), defArgs (top 18), defBody (top 18), defScope (top 18), [], []⟩
def d_Memory_check_cell : He.DefD := ⟨(("Memory" : Str), some ("check_cell" : Str)), ("check_cell" : Str), ("Memory.check_cell" : Str), defArgs (inClass (top 20) 2), defBody (inClass (top 20) 2), defScope (inClass (top 20) 2), [], []⟩
def d_Memory_check_lasting : He.DefD := ⟨(("Memory" : Str), some ("check_lasting" : Str)), ("check_lasting" : Str), ("Memory.check_lasting" : Str), defArgs (inClass (top 20) 3), defBody (inClass (top 20) 3), defScope (inClass (top 20) 3), [], []⟩
def d_Memory_check_request : He.DefD := ⟨(("Memory" : Str), some ("check_request" : Str)), ("check_request" : Str), ("Memory.check_request" : Str), defArgs (inClass (top 20) 4), defBody (inClass (top 20) 4), defScope (inClass (top 20) 4), [], []⟩
def d_Memory_access : He.DefD := ⟨(("Memory" : Str), some ("access" : Str)), ("access" : Str), ("Memory.access" : Str), defArgs (inClass (top 20) 5), defBody (inClass (top 20) 5), defScope (inClass (top 20) 5), [], []⟩
def d_Stack_step : He.DefD := ⟨(("Stack" : Str), some ("step" : Str)), ("step" : Str), ("Stack.step" : Str), defArgs (inClass (top 2) 3), defBody (inClass (top 2) 3), defScope (inClass (top 2) 3), [], []⟩
def d_Stack_init : He.DefD := ⟨(("Stack" : Str), some ("__init__" : Str)), ("__init__" : Str), ("Stack.__init__" : Str), defArgs (inClass (top 2) 0), defBody (inClass (top 2) 0), defScope (inClass (top 2) 0), [], []⟩
def d_Leaving_init : He.DefD := ⟨(("Leaving" : Str), some ("__init__" : Str)), ("__init__" : Str), ("Leaving.__init__" : Str), defArgs (inClass (top 8) 0), defBody (inClass (top 8) 0), defScope (inClass (top 8) 0), [], []⟩
def d_Entering_init : He.DefD := ⟨(("Entering" : Str), some ("__init__" : Str)), ("__init__" : Str), ("Entering.__init__" : Str), defArgs (inClass (top 7) 0), defBody (inClass (top 7) 0), defScope (inClass (top 7) 0), [], []⟩
def d__law_alone : He.DefD := ⟨(("_law_alone" : Str), none), ("_law_alone" : Str), ("_law_alone" : Str), defArgs (top 29), defBody (top 29), defScope (top 29), [], []⟩
def d_Memory_peek : He.DefD := ⟨(("Memory" : Str), some ("peek" : Str)), ("peek" : Str), ("Memory.peek" : Str), defArgs (inClass (top 20) 10), defBody (inClass (top 20) 10), defScope (inClass (top 20) 10), [], []⟩
def d__law_slots : He.DefD := ⟨(("_law_slots" : Str), none), ("_law_slots" : Str), ("_law_slots" : Str), defArgs (top 28), defBody (top 28), defScope (top 28), [], []⟩
def d_Store_free_cells : He.DefD := ⟨(("Store" : Str), some ("free_cells" : Str)), ("free_cells" : Str), ("Store.free_cells" : Str), defArgs (inClass (top 6) 4), defBody (inClass (top 6) 4), defScope (inClass (top 6) 4), [], []⟩
def d__law_whole : He.DefD := ⟨(("_law_whole" : Str), none), ("_law_whole" : Str), ("_law_whole" : Str), defArgs (top 27), defBody (top 27), defScope (top 27), [], []⟩
def d__law_held : He.DefD := ⟨(("_law_held" : Str), none), ("_law_held" : Str), ("_law_held" : Str), defArgs (top 25), defBody (top 25), defScope (top 25), [], []⟩
def d__law_known : He.DefD := ⟨(("_law_known" : Str), none), ("_law_known" : Str), ("_law_known" : Str), defArgs (top 24), defBody (top 24), defScope (top 24), [], []⟩
def d_Store_take_out : He.DefD := ⟨(("Store" : Str), some ("take_out" : Str)), ("take_out" : Str), ("Store.take_out" : Str), defArgs (inClass (top 6) 3), defBody (inClass (top 6) 3), defScope (inClass (top 6) 3), [], []⟩
def d_Store_take : He.DefD := ⟨(("Store" : Str), some ("take" : Str)), ("take" : Str), ("Store.take" : Str), defArgs (inClass (top 6) 1), defBody (inClass (top 6) 1), defScope (inClass (top 6) 1), [], []⟩
def d_Layout_word : He.DefD := ⟨(("Layout" : Str), some ("word" : Str)), ("word" : Str), ("Layout.word" : Str), defArgs (inClass (top 19) 4), defBody (inClass (top 19) 4), defScope (inClass (top 19) 4), [], []⟩
def d_Memory_log : He.DefD := ⟨(("Memory" : Str), some ("log" : Str)), ("log" : Str), ("Memory.log" : Str), defArgs (inClass (top 20) 15), defBody (inClass (top 20) 15), defScope (inClass (top 20) 15), [], []⟩
def d__law_at : He.DefD := ⟨(("_law_at" : Str), none), ("_law_at" : Str), ("_law_at" : Str), defArgs (top 23), defBody (top 23), defScope (top 23), [], []⟩
def d_Store_init : He.DefD := ⟨(("Store" : Str), some ("__init__" : Str)), ("__init__" : Str), ("Store.__init__" : Str), defArgs (inClass (top 6) 0), defBody (inClass (top 6) 0), defScope (inClass (top 6) 0), [], []⟩
def d_divided : He.DefD := ⟨(("divided" : Str), none), ("divided" : Str), ("divided" : Str), defArgs (top 5), defBody (top 5), defScope (top 5), [], []⟩
def d__law_store : He.DefD := ⟨(("_law_store" : Str), none), ("_law_store" : Str), ("_law_store" : Str), defArgs (top 26), defBody (top 26), defScope (top 26), [], []⟩
def d_Memory_no_notes : He.DefD := ⟨(("Memory" : Str), some ("no_notes" : Str)), ("no_notes" : Str), ("Memory.no_notes" : Str), defArgs (inClass (top 20) 1), defBody (inClass (top 20) 1), defScope (inClass (top 20) 1), [], []⟩
def d_Memory_init : He.DefD := ⟨(("Memory" : Str), some ("__init__" : Str)), ("__init__" : Str), ("Memory.__init__" : Str), defArgs (inClass (top 20) 0), defBody (inClass (top 20) 0), defScope (inClass (top 20) 0), [], []⟩
def d_Layout_init : He.DefD := ⟨(("Layout" : Str), some ("__init__" : Str)), ("__init__" : Str), ("Layout.__init__" : Str), defArgs (inClass (top 19) 0), defBody (inClass (top 19) 0), defScope (inClass (top 19) 0), [], []⟩
def d__law_tape : He.DefD := ⟨(("_law_tape" : Str), none), ("_law_tape" : Str), ("_law_tape" : Str), defArgs (top 22), defBody (top 22), defScope (top 22), [], []⟩
def d_law : He.DefD := ⟨(("law" : Str), none), ("law" : Str), ("law" : Str), defArgs (top 30), defBody (top 30), defScope (top 30), [], []⟩
def fn0 : List He.DefD := [d_Store_waiting, d_Stack_ended, d_Entering_accept, d_Store_stamp, d_Leaving_look_on, d_Store_give_back, d_Store_release, d_Leaving_finish, d_Leaving_take_other, d_Leaving_accept, d_Stack_pass_on, d_Entering_request, d_Layout_epoch, d_Layout_epoch_slot, d_Leaving_request, d_Stack_settle, d_Layout_call_slot, d_Layout_record, d_Layout_cells, d_Layout_is_lasting, d_Memory_give, d_Memory_shorten, d_Memory_fence, d_Memory_result, d_is_within, d_Memory_check_cell, d_Memory_check_lasting, d_Memory_check_request, d_Memory_access, d_Stack_step, d_Stack_init, d_Leaving_init, d_Entering_init, d__law_alone, d_Memory_peek]
def fn1 : List He.DefD := [d__law_slots, d_Store_free_cells, d__law_whole, d__law_held, d__law_known, d_Store_take_out, d_Store_take, d_Layout_word, d_Memory_log, d__law_at, d_Store_init, d_divided, d__law_store, d_Memory_no_notes, d_Memory_init, d_Layout_init, d__law_tape, d_law]
def fn : List He.DefD := fn0 ++ fn1
def fa0 : List He.Fa := [.free ("list" : Str), .cls ("Store" : Str), .noat ("Store" : Str) ("layout" : Str), .noat ("Store" : Str) ("thread" : Str), .noat ("Store" : Str) ("spare" : Str), .noat ("Store" : Str) ("taken_out" : Str), .noat ("Store" : Str) ("delayed" : Str), .meth ("Store" : Str) ("waiting" : Str), .free ("len" : Str), .cls ("Stack" : Str), .noat ("Stack" : Str) ("machines" : Str), .noat ("Stack" : Str) ("result" : Str), .meth ("Stack" : Str) ("ended" : Str), .cls ("Entering" : Str), .noat ("Entering" : Str) ("epoch_cell" : Str), .noat ("Entering" : Str) ("slot" : Str), .noat ("Entering" : Str) ("state" : Str), .noat ("Entering" : Str) ("epoch" : Str), .meth ("Entering" : Str) ("accept" : Str), .meth ("Store" : Str) ("stamp" : Str), .cls ("Leaving" : Str), .noat ("Leaving" : Str) ("store" : Str), .noat ("Leaving" : Str) ("epoch" : Str), .noat ("Leaving" : Str) ("others" : Str), .noat ("Leaving" : Str) ("state" : Str), .meth ("Leaving" : Str) ("look_on" : Str), .int ("AGE" : Str) (3), .free ("sorted" : Str), .meth ("Store" : Str) ("give_back" : Str), .meth ("Store" : Str) ("release" : Str), .meth ("Leaving" : Str) ("finish" : Str), .meth ("Leaving" : Str) ("take_other" : Str), .free ("int" : Str), .meth ("Leaving" : Str) ("accept" : Str), .meth ("Stack" : Str) ("pass_on" : Str)]
def fa1 : List He.Fa := [.meth ("Entering" : Str) ("request" : Str), .cls ("Layout" : Str), .noat ("Layout" : Str) ("threads" : Str), .noat ("Layout" : Str) ("words" : Str), .noat ("Layout" : Str) ("records" : Str), .meth ("Layout" : Str) ("epoch" : Str), .meth ("Layout" : Str) ("epoch_slot" : Str), .meth ("Leaving" : Str) ("request" : Str), .meth ("Stack" : Str) ("settle" : Str), .meth ("Layout" : Str) ("call_slot" : Str), .meth ("Layout" : Str) ("record" : Str), .meth ("Layout" : Str) ("cells" : Str), .meth ("Layout" : Str) ("is_lasting" : Str), .cls ("Memory" : Str), .noat ("Memory" : Str) ("layout" : Str), .noat ("Memory" : Str) ("count" : Str), .noat ("Memory" : Str) ("rows" : Str), .noat ("Memory" : Str) ("trails" : Str), .noat ("Memory" : Str) ("notes" : Str), .meth ("Memory" : Str) ("give" : Str), .free ("max" : Str), .free ("min" : Str), .meth ("Memory" : Str) ("shorten" : Str), .meth ("Memory" : Str) ("fence" : Str), .meth ("Memory" : Str) ("result" : Str), .free ("isinstance" : Str), .free ("bool" : Str), .glo ("is_within" : Str), .meth ("Memory" : Str) ("check_cell" : Str), .meth ("Memory" : Str) ("check_lasting" : Str), .glo ("LENGTHS" : Str), .free ("tuple" : Str), .meth ("Memory" : Str) ("check_request" : Str), .meth ("Memory" : Str) ("access" : Str), .meth ("Stack" : Str) ("step" : Str)]
def fa2 : List He.Fa := [.free ("range" : Str), .mkr ("Stack" : Str), .glo ("Stack" : Str), .mkr ("Leaving" : Str), .glo ("Leaving" : Str), .mkr ("Entering" : Str), .glo ("Entering" : Str), .glo ("_law_alone" : Str), .meth ("Memory" : Str) ("peek" : Str), .glo ("_law_slots" : Str), .meth ("Store" : Str) ("free_cells" : Str), .glo ("_law_whole" : Str), .glo ("_law_held" : Str), .glo ("_law_known" : Str), .meth ("Store" : Str) ("take_out" : Str), .meth ("Store" : Str) ("take" : Str), .meth ("Layout" : Str) ("word" : Str), .meth ("Memory" : Str) ("log" : Str), .glo ("_law_at" : Str), .mkr ("Store" : Str), .glo ("Store" : Str), .glo ("divided" : Str), .glo ("_law_store" : Str), .meth ("Memory" : Str) ("no_notes" : Str), .mkr ("Memory" : Str), .glo ("Memory" : Str), .int ("MOST_RECORDS" : Str) (200), .int ("LEAST_RECORDS" : Str) (4), .int ("MOST_WORDS" : Str) (4), .int ("MOST_THREADS" : Str) (3), .mkr ("Layout" : Str), .glo ("Layout" : Str), .free ("abs" : Str), .glo ("_law_tape" : Str), .glo ("law" : Str)]
def fa : List He.Fa := fa0 ++ fa1 ++ fa2
def fx : List (PySem.W.Frag → Bool) := [R1.dctF "LENGTHS" [(2, (.int (2))), (3, (.int (3))), (4, (.int (4))), (5, (.int (3))), (6, (.int (2))), (7, (.int (1)))] 64]
def ts : List He.Tab := [(fun K => He.ga K "LENGTHS", ["read", "write", "swap", "decide", "flush", "fence"])]
def loose0 : List Str := ["_wall", "__name__", "Stack", "AGE", "divided", "Store", "Entering", "Leaving", "LineError", "NotValid", "LENGTHS", "MOST_THREADS", "MOST_WORDS", "LEAST_RECORDS", "MOST_RECORDS", "is_within", "Layout", "Memory", "_law_tape", "_law_at"]
def loose1 : List Str := ["_law_known", "_law_held", "_law_store", "_law_whole", "_law_slots", "_law_alone"]
def loose : List Str := loose0 ++ loose1
abbrev R : PySem.W.OpenRow := PySem.W.OpenLaw.row PySem.Challenge.rw_driftkept_k09_whole_epochs
abbrev hk : PySem.W.Hook := R1.hookX 6 fa fn fx ts
def ob (s : PySem.W.SharedT) : Bool × He.AlT := R1.obsXG 6 fa fn fx ts (HandSHeadRun.getT s)
theorem ob_eq (s : PySem.W.SharedT) : ob s = hk.obs s.abs := R1.obsXG_eq (HandSHeadRun.getT_eq s)
section
variable {P : Program} {w : World} {K : PySem.W.Frag} {mg : Str → Option Value} {base : Heap}
theorem sc_Store_waiting : FnScope ["self", "rows", "stamp", "cells"] ["self"] (defScope (inClass (top 6) 5)) := ⟨rfl, rfl, rfl, by decide +kernel, rfl, by decide +kernel, by decide +kernel⟩
theorem bo_Store_waiting (T : Txt fa fn fx ts w K mg) (f : Addr) : Body0 P w K mg base ["self", "rows", "stamp", "cells"] "Store.waiting" (defBody (inClass (top 6) 5)) (defScope (inClass (top 6) 5)) f 0 b_Store_waiting := fun cdv A outer s H E hr => (rs_cons (rs_setLcFA (i := 1) (by rfl) sc_Store_waiting.nd (by rfl) (by rfl) (sw_true (by rfl) (by rfl) (by rfl) (by decide +kernel)) (re_fld (rv 0) (plOk_by (by decide +kernel))) (blkOk_by (own := [("stamp", 2), ("cells", 3)]) (by show blkC ["self", "rows", "stamp", "cells"] (defScope (inClass (top 6) 5)) _ _ = true; decide +kernel)) (by decide) (fun _ _ _ _ _ => (rg_tup rfl (rgc 2 sc_Store_waiting.nd (rgc 3 sc_Store_waiting.nd rgs_nil)))) (fun _ _ _ _ _ => rts_nil) (fun _ _ _ _ _ => (re_tup (ra_cons (rv 2) (ra_cons (re_callTy (CallR.or1 call_list_of (call_listD rfl)) (s_list.or s_listD) (by rfl) (T.free 0) (by decide +kernel) (ra_cons (rv 3) ra_nil)) ra_nil)))))
  (rs_cons (rs_if (rt_truth (re_fld (rv 0) (plOk_by (by decide +kernel)))) (rs_one (rs_ex (re_app (rv 1) (re_tup (ra_cons re_non (ra_cons (re_callTy (CallR.or1 call_list_of (call_listD rfl)) (s_list.or s_listD) (by rfl) (T.free 0) (by decide +kernel) (ra_cons (re_fld (rv 0) (plOk_by (by decide +kernel))) ra_nil)) ra_nil)))))) rs_nil)
  (rs_one (rs_ret (rv 1)))))
theorem g_Store_waiting (T : Txt fa fn fx ts w K mg) : MF P w K mg base CX0 1 5 "waiting" 1 m_Store_waiting [] :=
  mf0 (mm := m_Store_waiting) (by exact Wk.trunc) (params := defArgs (inClass (top 6) 5)) (body := defBody (inClass (top 6) 5)) (scope := defScope (inClass (top 6) 5)) (m := "waiting") (q := "Store.waiting") T 0 7 1 5 sc_Store_waiting (b := b_Store_waiting) (bo_Store_waiting T) (fun _ _ _ _ _ _ us hl => match us, hl with | [_], _ => rfl)
theorem sc_Stack_ended : FnScope ["self"] ["self"] (defScope (inClass (top 2) 4)) := ⟨rfl, rfl, rfl, by decide +kernel, rfl, by decide +kernel, by decide +kernel⟩
theorem bo_Stack_ended (T : Txt fa fn fx ts w K mg) (f : Addr) : Body0 P w K mg base ["self"] "Stack.ended" (defBody (inClass (top 2) 4)) (defScope (inClass (top 2) 4)) f 0 b_Stack_ended := fun cdv A outer s H E hr => (rs_one (rs_ret (re_eqA hr.units (re_callB call_len s_len (by rfl) (T.free 8) (by decide +kernel) (ra_cons (re_fld (rv 0) (plOk_by (by decide +kernel))) ra_nil)) re_int)))
theorem g_Stack_ended (T : Txt fa fn fx ts w K mg) : MF P w K mg base CX0 1 3 "ended" 1 m_Stack_ended [] :=
  mf0 (mm := m_Stack_ended) (by exact Wk.trunc) (params := defArgs (inClass (top 2) 4)) (body := defBody (inClass (top 2) 4)) (scope := defScope (inClass (top 2) 4)) (m := "ended") (q := "Stack.ended") T 1 12 9 3 sc_Stack_ended (b := b_Stack_ended) (bo_Stack_ended T) (fun _ _ _ _ _ _ us hl => match us, hl with | [_], _ => rfl)
theorem sc_Entering_accept : FnScope ["self", "result"] ["self", "result"] (defScope (inClass (top 7) 2)) := ⟨rfl, rfl, rfl, by decide +kernel, rfl, by decide +kernel, by decide +kernel⟩
theorem bo_Entering_accept (T : Txt fa fn fx ts w K mg) (f : Addr) : Body0 P w K mg base ["self", "result"] "Entering.accept" (defBody (inClass (top 7) 2)) (defScope (inClass (top 7) 2)) f 0 b_Entering_accept := fun cdv A outer s H E hr => (rs_one (rs_if (rt_eqA hr.units (re_fld (rv 0) (plOk_by (by decide +kernel))) (re_str (k := 3))) (rs_one (rs_fld (by decide +kernel) (rv 0) (re_str (k := 27)))) (rs_one (rs_if (rt_bool (rw_and (rt_eqA hr.units (re_fld (rv 0) (plOk_by (by decide +kernel))) (re_str (k := 27))) (rw_and1 (rt_eqA hr.units (re_ixA hr.units (rv 1) re_int) (re_fld (rv 0) (plOk_by (by decide +kernel))))))) (rs_one (rs_fld (by decide +kernel) (rv 0) (re_str (k := 14)))) (rs_cons (rs_fld (by decide +kernel) (rv 0) (re_ixA hr.units (rv 1) re_int))
  (rs_one (rs_fld (by decide +kernel) (rv 0) (re_str (k := 3)))))))))
theorem g_Entering_accept (T : Txt fa fn fx ts w K mg) : MF P w K mg base CX0 1 6 "accept" 2 m_Entering_accept [] :=
  mf0 (mm := m_Entering_accept) (by exact Wk.refl) (params := defArgs (inClass (top 7) 2)) (body := defBody (inClass (top 7) 2)) (scope := defScope (inClass (top 7) 2)) (m := "accept") (q := "Entering.accept") T 2 18 13 6 sc_Entering_accept (b := b_Entering_accept) (bo_Entering_accept T) (fun _ _ _ _ _ _ us hl => match us, hl with | [_, _], _ => rfl)
theorem sc_Store_stamp : FnScope ["self", "epoch"] ["self", "epoch"] (defScope (inClass (top 6) 6)) := ⟨rfl, rfl, rfl, by decide +kernel, rfl, by decide +kernel, by decide +kernel⟩
theorem bo_Store_stamp (T : Txt fa fn fx ts w K mg) (f : Addr) : Body0 P w K mg base ["self", "epoch"] "Store.stamp" (defBody (inClass (top 6) 6)) (defScope (inClass (top 6) 6)) f 0 b_Store_stamp := fun cdv A outer s H E hr => (rs_cons (rs_ex (re_app (re_fld (rv 0) (plOk_by (by decide +kernel))) (re_tup (ra_cons (rv 1) (ra_cons (re_fld (rv 0) (plOk_by (by decide +kernel))) ra_nil)))))
  (rs_one (rs_fld (by decide +kernel) (rv 0) (re_lst ra_nil))))
theorem g_Store_stamp (T : Txt fa fn fx ts w K mg) : MF P w K mg base CX0 1 5 "stamp" 2 m_Store_stamp [] :=
  mf0 (mm := m_Store_stamp) (by exact Wk.refl) (params := defArgs (inClass (top 6) 6)) (body := defBody (inClass (top 6) 6)) (scope := defScope (inClass (top 6) 6)) (m := "stamp") (q := "Store.stamp") T 3 19 1 5 sc_Store_stamp (b := b_Store_stamp) (bo_Store_stamp T) (fun _ _ _ _ _ _ us hl => match us, hl with | [_, _], _ => rfl)
theorem sc_Leaving_look_on : FnScope ["self"] ["self"] (defScope (inClass (top 8) 3)) := ⟨rfl, rfl, rfl, by decide +kernel, rfl, by decide +kernel, by decide +kernel⟩
theorem bo_Leaving_look_on (T : Txt fa fn fx ts w K mg) (f : Addr) : Body0 P w K mg base ["self"] "Leaving.look_on" (defBody (inClass (top 8) 3)) (defScope (inClass (top 8) 3)) f 0 b_Leaving_look_on := fun cdv A outer s H E hr => (rs_cons (rs_fld (by decide +kernel) (rv 0) (re_str (k := 29)))
  (rs_one (rs_if (rt_truth (re_fld (rv 0) (plOk_by (by decide +kernel)))) (rs_one (rs_fld (by decide +kernel) (rv 0) (re_str (k := 31)))) rs_nil)))
theorem g_Leaving_look_on (T : Txt fa fn fx ts w K mg) : MF P w K mg base CX0 1 7 "look_on" 1 m_Leaving_look_on [] :=
  mf0 (mm := m_Leaving_look_on) (by exact Wk.refl) (params := defArgs (inClass (top 8) 3)) (body := defBody (inClass (top 8) 3)) (scope := defScope (inClass (top 8) 3)) (m := "look_on") (q := "Leaving.look_on") T 4 25 20 7 sc_Leaving_look_on (b := b_Leaving_look_on) (bo_Leaving_look_on T) (fun _ _ _ _ _ _ us hl => match us, hl with | [_], _ => rfl)
theorem sc_Store_give_back : FnScope ["self", "cells"] ["self", "cells"] (defScope (inClass (top 6) 2)) := ⟨rfl, rfl, rfl, by decide +kernel, rfl, by decide +kernel, by decide +kernel⟩
theorem bo_Store_give_back (T : Txt fa fn fx ts w K mg) (f : Addr) : Body0 P w K mg base ["self", "cells"] "Store.give_back" (defBody (inClass (top 6) 2)) (defScope (inClass (top 6) 2)) f 0 b_Store_give_back := fun cdv A outer s H E hr => (rs_one (rs_fld (by decide +kernel) (rv 0) (re_callB (CallR.or1 (CallR.or1 cr_sortedI (call_sortedDI rfl)) (cr_sortT hr.units)) ((s_sortL.or s_sortD).or s_sortT) (by rfl) (T.free 27) (by decide +kernel) (ra_cons (re_add (re_fld (rv 0) (plOk_by (by decide +kernel))) (re_callTy (CallR.or1 call_list_of (call_listD rfl)) (s_list.or s_listD) (by rfl) (T.free 0) (by decide +kernel) (ra_cons (rv 1) ra_nil))) ra_nil))))
theorem g_Store_give_back (T : Txt fa fn fx ts w K mg) : MF P w K mg base CX0 1 5 "give_back" 2 m_Store_give_back [] :=
  mf0 (mm := m_Store_give_back) (by exact Wk.refl) (params := defArgs (inClass (top 6) 2)) (body := defBody (inClass (top 6) 2)) (scope := defScope (inClass (top 6) 2)) (m := "give_back") (q := "Store.give_back") T 5 28 1 5 sc_Store_give_back (b := b_Store_give_back) (bo_Store_give_back T) (fun _ _ _ _ _ _ us hl => match us, hl with | [_, _], _ => rfl)
theorem sc_Store_release : FnScope ["self", "epoch", "waiting", "stamp", "cells"] ["self", "epoch"] (defScope (inClass (top 6) 7)) := ⟨rfl, rfl, rfl, by decide +kernel, rfl, by decide +kernel, by decide +kernel⟩
theorem bo_Store_release (T : Txt fa fn fx ts w K mg) (f : Addr) : Body0 P w K mg base ["self", "epoch", "waiting", "stamp", "cells"] "Store.release" (defBody (inClass (top 6) 7)) (defScope (inClass (top 6) 7)) f 1 b_Store_release := fun cdv A outer s H E hr => (rs_cons (rst 2 sc_Store_release.nd (re_lst ra_nil))
  (rs_cons (rs_forA PassesOwn.never rfl (re_fld (rv 0) (plOk_by (by decide +kernel))) (rg_tup rfl (rgc 3 sc_Store_release.nd (rgc 4 sc_Store_release.nd rgs_nil))) (rs_one (rs_if (rt_le (rv 3) (re_sub (rv 1) (rgi T 26))) (rs_one (rs_ex (re_meth (rv 0) (g_Store_give_back T) runDef_ar (hr.mono (by decide)) passE (ra_cons (rv 4) ra_nil)))) (rs_one (rs_ex (re_app (rv 2) (re_tup (ra_cons (rv 3) (ra_cons (rv 4) ra_nil)))))))))
  (rs_one (rs_fld (by decide +kernel) (rv 0) (rv 2)))))
theorem g_Store_release (T : Txt fa fn fx ts w K mg) : MF P w K mg base CX0 2 5 "release" 2 m_Store_release [] :=
  mf0 (mm := m_Store_release) (by exact Wk.refl) (params := defArgs (inClass (top 6) 7)) (body := defBody (inClass (top 6) 7)) (scope := defScope (inClass (top 6) 7)) (m := "release") (q := "Store.release") T 6 29 1 5 sc_Store_release (b := b_Store_release) (bo_Store_release T) (fun _ _ _ _ _ _ us hl => match us, hl with | [_, _], _ => rfl)
theorem sc_Leaving_finish : FnScope ["self", "known"] ["self", "known"] (defScope (inClass (top 8) 5)) := ⟨rfl, rfl, rfl, by decide +kernel, rfl, by decide +kernel, by decide +kernel⟩
theorem bo_Leaving_finish (T : Txt fa fn fx ts w K mg) (f : Addr) : Body0 P w K mg base ["self", "known"] "Leaving.finish" (defBody (inClass (top 8) 5)) (defScope (inClass (top 8) 5)) f 2 b_Leaving_finish := fun cdv A outer s H E hr => (rs_cons (rs_ex (re_meth (re_fld (rv 0) (plOk_by (by decide +kernel))) (g_Store_release T) runDef_ar (hr.mono (by decide)) passE (ra_cons (rv 1) ra_nil)))
  (rs_one (rs_fld (by decide +kernel) (rv 0) (re_str (k := 14)))))
theorem g_Leaving_finish (T : Txt fa fn fx ts w K mg) : MF P w K mg base CX0 3 7 "finish" 2 m_Leaving_finish [] :=
  mf0 (mm := m_Leaving_finish) (by exact Wk.refl) (params := defArgs (inClass (top 8) 5)) (body := defBody (inClass (top 8) 5)) (scope := defScope (inClass (top 8) 5)) (m := "finish") (q := "Leaving.finish") T 7 30 20 7 sc_Leaving_finish (b := b_Leaving_finish) (bo_Leaving_finish T) (fun _ _ _ _ _ _ us hl => match us, hl with | [_, _], _ => rfl)
theorem sc_Leaving_take_other : FnScope ["self", "value"] ["self", "value"] (defScope (inClass (top 8) 4)) := ⟨rfl, rfl, rfl, by decide +kernel, rfl, by decide +kernel, by decide +kernel⟩
theorem bo_Leaving_take_other (T : Txt fa fn fx ts w K mg) (f : Addr) : Body0 P w K mg base ["self", "value"] "Leaving.take_other" (defBody (inClass (top 8) 4)) (defScope (inClass (top 8) 4)) f 3 b_Leaving_take_other := fun cdv A outer s H E hr => (rs_one (rs_if (rt_bool (rw_and (rt_isnot (rv 1) re_non) (rw_and1 (rt_neA hr.units (rv 1) (re_fld (rv 0) (plOk_by (by decide +kernel))))))) (rs_one (rs_ex (re_meth (rv 0) (g_Leaving_finish T) runDef_ar (hr.mono (by decide)) passE (ra_cons (re_fld (rv 0) (plOk_by (by decide +kernel))) ra_nil)))) (rs_cons (rs_fld (by decide +kernel) (rv 0) (re_sl (re_fld (rv 0) (plOk_by (by decide +kernel))) (ro_some re_int) ro_none))
  (rs_one (rs_ex (re_meth0 (rv 0) (g_Leaving_look_on T) runDef_ar (hr.mono (by decide)) passE))))))
theorem g_Leaving_take_other (T : Txt fa fn fx ts w K mg) : MF P w K mg base CX0 4 7 "take_other" 2 m_Leaving_take_other [] :=
  mf0 (mm := m_Leaving_take_other) (by exact Wk.refl) (params := defArgs (inClass (top 8) 4)) (body := defBody (inClass (top 8) 4)) (scope := defScope (inClass (top 8) 4)) (m := "take_other") (q := "Leaving.take_other") T 8 31 20 7 sc_Leaving_take_other (b := b_Leaving_take_other) (bo_Leaving_take_other T) (fun _ _ _ _ _ _ us hl => match us, hl with | [_, _], _ => rfl)
theorem sc_Leaving_accept : FnScope ["self", "result", "value"] ["self", "result"] (defScope (inClass (top 8) 2)) := ⟨rfl, rfl, rfl, by decide +kernel, rfl, by decide +kernel, by decide +kernel⟩
theorem bo_Leaving_accept (T : Txt fa fn fx ts w K mg) (f : Addr) : Body0 P w K mg base ["self", "result", "value"] "Leaving.accept" (defBody (inClass (top 8) 2)) (defScope (inClass (top 8) 2)) f 4 b_Leaving_accept := fun cdv A outer s H E hr => (rs_cons (rst 2 sc_Leaving_accept.nd (re_ixA hr.units (rv 1) re_int))
  (rs_one (rs_if (rt_eqA hr.units (re_fld (rv 0) (plOk_by (by decide +kernel))) (re_str (k := 30))) (rs_cons (rs_ex (re_meth (re_fld (rv 0) (plOk_by (by decide +kernel))) (g_Store_stamp T) runDef_ar (hr.mono (by decide)) passE (ra_cons (rv 2) ra_nil)))
  (rs_one (rs_fld (by decide +kernel) (rv 0) (re_str (k := 28))))) (rs_one (rs_if (rt_eqA hr.units (re_fld (rv 0) (plOk_by (by decide +kernel))) (re_str (k := 28))) (rs_cons (rs_fld (by decide +kernel) (rv 0) (re_str (k := 14)))
  (rs_one (rs_if (rt_truth (re_fld (re_fld (rv 0) (plOk_by (by decide +kernel))) (plOk_by (by decide +kernel)))) (rs_one (rs_fld (by decide +kernel) (rv 0) (re_str (k := 32)))) rs_nil))) (rs_one (rs_if (rt_eqA hr.units (re_fld (rv 0) (plOk_by (by decide +kernel))) (re_str (k := 32))) (rs_cons (rs_fld (by decide +kernel) (rv 0) (rv 2))
  (rs_one (rs_ex (re_meth0 (rv 0) (g_Leaving_look_on T) runDef_ar (hr.mono (by decide)) passE)))) (rs_one (rs_if (rt_eqA hr.units (re_fld (rv 0) (plOk_by (by decide +kernel))) (re_str (k := 31))) (rs_one (rs_ex (re_meth (rv 0) (g_Leaving_take_other T) runDef_ar (hr.mono (by decide)) passE (ra_cons (rv 2) ra_nil)))) (rs_one (rs_ex (re_meth (rv 0) (g_Leaving_finish T) runDef_ar (hr.mono (by decide)) passE (ra_cons (re_add (re_fld (rv 0) (plOk_by (by decide +kernel))) (re_callTy call_int1 s_int (by rfl) (T.free 32) (by decide +kernel) (ra_cons (rv 2) ra_nil))) ra_nil)))))))))))))
theorem g_Leaving_accept (T : Txt fa fn fx ts w K mg) : MF P w K mg base CX0 5 7 "accept" 2 m_Leaving_accept [] :=
  mf0 (mm := m_Leaving_accept) (by exact Wk.refl) (params := defArgs (inClass (top 8) 2)) (body := defBody (inClass (top 8) 2)) (scope := defScope (inClass (top 8) 2)) (m := "accept") (q := "Leaving.accept") T 9 33 20 7 sc_Leaving_accept (b := b_Leaving_accept) (bo_Leaving_accept T) (fun _ _ _ _ _ _ us hl => match us, hl with | [_, _], _ => rfl)
theorem sc_Stack_pass_on : FnScope ["self", "value"] ["self", "value"] (defScope (inClass (top 2) 2)) := ⟨rfl, rfl, rfl, by decide +kernel, rfl, by decide +kernel, by decide +kernel⟩
theorem bo_Stack_pass_on (T : Txt fa fn fx ts w K mg) (f : Addr) : Body0 P w K mg base ["self", "value"] "Stack.pass_on" (defBody (inClass (top 2) 2)) (defScope (inClass (top 2) 2)) f 5 b_Stack_pass_on := fun cdv A outer s H E hr => (rs_one (rs_if (rt_truth (re_fld (rv 0) (plOk_by (by decide +kernel)))) (rs_one (rs_ex (meth_cons (re_meth (re_ixA hr.units (re_fld (rv 0) (plOk_by (by decide +kernel))) (re_neg re_int)) (g_Entering_accept T) runDef_ar (hr.mono (by decide)) passE (ra_cons (rv 1) ra_nil)) (re_meth (re_ixA hr.units (re_fld (rv 0) (plOk_by (by decide +kernel))) (re_neg re_int)) (g_Leaving_accept T) runDef_ar (hr.mono (by decide)) passE (ra_cons (rv 1) ra_nil))))) (rs_one (rs_fld (by decide +kernel) (rv 0) (rv 1)))))
theorem g_Stack_pass_on (T : Txt fa fn fx ts w K mg) : MF P w K mg base CX0 6 3 "pass_on" 2 m_Stack_pass_on [] :=
  mf0 (mm := m_Stack_pass_on) (by exact Wk.refl) (params := defArgs (inClass (top 2) 2)) (body := defBody (inClass (top 2) 2)) (scope := defScope (inClass (top 2) 2)) (m := "pass_on") (q := "Stack.pass_on") T 10 34 9 3 sc_Stack_pass_on (b := b_Stack_pass_on) (bo_Stack_pass_on T) (fun _ _ _ _ _ _ us hl => match us, hl with | [_, _], _ => rfl)
theorem sc_Entering_request : FnScope ["self"] ["self"] (defScope (inClass (top 7) 1)) := ⟨rfl, rfl, rfl, by decide +kernel, rfl, by decide +kernel, by decide +kernel⟩
theorem bo_Entering_request (T : Txt fa fn fx ts w K mg) (f : Addr) : Body0 P w K mg base ["self"] "Entering.request" (defBody (inClass (top 7) 1)) (defScope (inClass (top 7) 1)) f 0 b_Entering_request := fun cdv A outer s H E hr => (rs_cons (rs_if (rt_eqA hr.units (re_fld (rv 0) (plOk_by (by decide +kernel))) (re_str (k := 14))) (rs_one (rs_ret (re_tup (ra_cons (re_str (k := 14)) (ra_cons (re_fld (rv 0) (plOk_by (by decide +kernel))) ra_nil))))) rs_nil)
  (rs_cons (rs_if (rt_eqA hr.units (re_fld (rv 0) (plOk_by (by decide +kernel))) (re_str (k := 3))) (rs_one (rs_ret (re_tup (ra_cons (re_str (k := 3)) (ra_cons (re_fld (rv 0) (plOk_by (by decide +kernel))) (ra_cons (re_fld (rv 0) (plOk_by (by decide +kernel))) ra_nil)))))) rs_nil)
  (rs_one (rs_ret (re_tup (ra_cons (re_str (k := 2)) (ra_cons (re_fld (rv 0) (plOk_by (by decide +kernel))) ra_nil)))))))
theorem g_Entering_request (T : Txt fa fn fx ts w K mg) : MF P w K mg base CX0 1 6 "request" 1 m_Entering_request [] :=
  mf0 (mm := m_Entering_request) (by exact Wk.trunc) (params := defArgs (inClass (top 7) 1)) (body := defBody (inClass (top 7) 1)) (scope := defScope (inClass (top 7) 1)) (m := "request") (q := "Entering.request") T 11 35 13 6 sc_Entering_request (b := b_Entering_request) (bo_Entering_request T) (fun _ _ _ _ _ _ us hl => match us, hl with | [_], _ => rfl)
theorem sc_Layout_epoch : FnScope ["self"] ["self"] (defScope (inClass (top 19) 1)) := ⟨rfl, rfl, rfl, by decide +kernel, rfl, by decide +kernel, by decide +kernel⟩
theorem bo_Layout_epoch (T : Txt fa fn fx ts w K mg) (f : Addr) : Body0 P w K mg base ["self"] "Layout.epoch" (defBody (inClass (top 19) 1)) (defScope (inClass (top 19) 1)) f 0 b_Layout_epoch := fun cdv A outer s H E hr => (rs_one (rs_ret re_int))
theorem g_Layout_epoch (T : Txt fa fn fx ts w K mg) : MF P w K mg base CX0 1 0 "epoch" 1 m_Layout_epoch [] :=
  mf0 (mm := m_Layout_epoch) (by exact Wk.trunc) (params := defArgs (inClass (top 19) 1)) (body := defBody (inClass (top 19) 1)) (scope := defScope (inClass (top 19) 1)) (m := "epoch") (q := "Layout.epoch") T 12 40 36 0 sc_Layout_epoch (b := b_Layout_epoch) (bo_Layout_epoch T) (fun _ _ _ _ _ _ us hl => match us, hl with | [_], _ => rfl)
theorem sc_Layout_epoch_slot : FnScope ["self", "thread"] ["self", "thread"] (defScope (inClass (top 19) 2)) := ⟨rfl, rfl, rfl, by decide +kernel, rfl, by decide +kernel, by decide +kernel⟩
theorem bo_Layout_epoch_slot (T : Txt fa fn fx ts w K mg) (f : Addr) : Body0 P w K mg base ["self", "thread"] "Layout.epoch_slot" (defBody (inClass (top 19) 2)) (defScope (inClass (top 19) 2)) f 0 b_Layout_epoch_slot := fun cdv A outer s H E hr => (rs_one (rs_ret (re_add re_int (rv 1))))
theorem g_Layout_epoch_slot (T : Txt fa fn fx ts w K mg) : MF P w K mg base CX0 1 0 "epoch_slot" 2 m_Layout_epoch_slot [] :=
  mf0 (mm := m_Layout_epoch_slot) (by exact Wk.trunc) (params := defArgs (inClass (top 19) 2)) (body := defBody (inClass (top 19) 2)) (scope := defScope (inClass (top 19) 2)) (m := "epoch_slot") (q := "Layout.epoch_slot") T 13 41 36 0 sc_Layout_epoch_slot (b := b_Layout_epoch_slot) (bo_Layout_epoch_slot T) (fun _ _ _ _ _ _ us hl => match us, hl with | [_, _], _ => rfl)
theorem sc_Leaving_request : FnScope ["self", "layout"] ["self"] (defScope (inClass (top 8) 1)) := ⟨rfl, rfl, rfl, by decide +kernel, rfl, by decide +kernel, by decide +kernel⟩
theorem bo_Leaving_request (T : Txt fa fn fx ts w K mg) (f : Addr) : Body0 P w K mg base ["self", "layout"] "Leaving.request" (defBody (inClass (top 8) 1)) (defScope (inClass (top 8) 1)) f 1 b_Leaving_request := fun cdv A outer s H E hr => (rs_cons (rst 1 sc_Leaving_request.nd (re_fld (re_fld (rv 0) (plOk_by (by decide +kernel))) (plOk_by (by decide +kernel))))
  (rs_cons (rs_if (rt_bool (rw_or (rt_eqA hr.units (re_fld (rv 0) (plOk_by (by decide +kernel))) (re_str (k := 30))) (rw_or1 (rt_eqA hr.units (re_fld (rv 0) (plOk_by (by decide +kernel))) (re_str (k := 32)))))) (rs_one (rs_ret (re_tup (ra_cons (re_str (k := 2)) (ra_cons (re_meth0 (rv 1) (g_Layout_epoch T) runDefT_ar (hr.mono (by decide)) passE) ra_nil))))) rs_nil)
  (rs_cons (rs_if (rt_eqA hr.units (re_fld (rv 0) (plOk_by (by decide +kernel))) (re_str (k := 28))) (rs_one (rs_ret (re_tup (ra_cons (re_str (k := 3)) (ra_cons (re_meth (rv 1) (g_Layout_epoch_slot T) runDefT_ar (hr.mono (by decide)) passE (ra_cons (re_fld (re_fld (rv 0) (plOk_by (by decide +kernel))) (plOk_by (by decide +kernel))) ra_nil)) (ra_cons re_non ra_nil)))))) rs_nil)
  (rs_cons (rs_if (rt_eqA hr.units (re_fld (rv 0) (plOk_by (by decide +kernel))) (re_str (k := 31))) (rs_one (rs_ret (re_tup (ra_cons (re_str (k := 2)) (ra_cons (re_meth (rv 1) (g_Layout_epoch_slot T) runDefT_ar (hr.mono (by decide)) passE (ra_cons (re_ixA hr.units (re_fld (rv 0) (plOk_by (by decide +kernel))) re_int) ra_nil)) ra_nil))))) rs_nil)
  (rs_cons (rs_if (rt_eqA hr.units (re_fld (rv 0) (plOk_by (by decide +kernel))) (re_str (k := 29))) (rs_one (rs_ret (re_tup (ra_cons (re_str (k := 4)) (ra_cons (re_meth0 (rv 1) (g_Layout_epoch T) runDefT_ar (hr.mono (by decide)) passE) (ra_cons (re_fld (rv 0) (plOk_by (by decide +kernel))) (ra_cons (re_add (re_fld (rv 0) (plOk_by (by decide +kernel))) re_int) ra_nil))))))) rs_nil)
  (rs_one (rs_ret (re_tup (ra_cons (re_str (k := 14)) (ra_cons re_non ra_nil))))))))))
theorem g_Leaving_request (T : Txt fa fn fx ts w K mg) : MF P w K mg base CX0 2 7 "request" 1 m_Leaving_request [] :=
  mf0 (mm := m_Leaving_request) (by exact Wk.trunc) (params := defArgs (inClass (top 8) 1)) (body := defBody (inClass (top 8) 1)) (scope := defScope (inClass (top 8) 1)) (m := "request") (q := "Leaving.request") T 14 42 20 7 sc_Leaving_request (b := b_Leaving_request) (bo_Leaving_request T) (fun _ _ _ _ _ _ us hl => match us, hl with | [_], _ => rfl)
theorem sc_Stack_settle : FnScope ["self", "request"] ["self"] (defScope (inClass (top 2) 1)) := ⟨rfl, rfl, rfl, by decide +kernel, rfl, by decide +kernel, by decide +kernel⟩
theorem bo_Stack_settle (T : Txt fa fn fx ts w K mg) (f : Addr) : Body0 P w K mg base ["self", "request"] "Stack.settle" (defBody (inClass (top 2) 1)) (defScope (inClass (top 2) 1)) f 6 b_Stack_settle := fun cdv A outer s H E hr => (rs_one (rs_while 1000 PassesOwn.never (rt_truth (re_fld (rv 0) (plOk_by (by decide +kernel)))) (rs_cons (rst 1 sc_Stack_settle.nd (meth_cons (re_meth0 (re_ixA hr.units (re_fld (rv 0) (plOk_by (by decide +kernel))) (re_neg re_int)) (g_Entering_request T) runDefT_ar (hr.mono (by decide)) passE) (re_meth0 (re_ixA hr.units (re_fld (rv 0) (plOk_by (by decide +kernel))) (re_neg re_int)) (g_Leaving_request T) runDefT_ar (hr.mono (by decide)) passE)))
  (rs_one (rs_if (rt_eqA hr.units (re_ixA hr.units (rv 1) re_int) (re_str (k := 19))) (rs_one (rs_ex (re_app (re_fld (rv 0) (plOk_by (by decide +kernel))) (re_ixA hr.units (rv 1) re_int)))) (rs_one (rs_if (rt_eqA hr.units (re_ixA hr.units (rv 1) re_int) (re_str (k := 14))) (rs_cons (rs_ex (re_pop (re_fld (rv 0) (plOk_by (by decide +kernel)))))
  (rs_one (rs_ex (re_meth (rv 0) (g_Stack_pass_on T) runDef_ar (hr.mono (by decide)) passE (ra_cons (re_ixA hr.units (rv 1) re_int) ra_nil))))) (rs_one rs_retN))))))))
theorem g_Stack_settle (T : Txt fa fn fx ts w K mg) : MF P w K mg base CX0 7 3 "settle" 1 m_Stack_settle [] :=
  mf0 (mm := m_Stack_settle) (by exact Wk.refl) (params := defArgs (inClass (top 2) 1)) (body := defBody (inClass (top 2) 1)) (scope := defScope (inClass (top 2) 1)) (m := "settle") (q := "Stack.settle") T 15 43 9 3 sc_Stack_settle (b := b_Stack_settle) (bo_Stack_settle T) (fun _ _ _ _ _ _ us hl => match us, hl with | [_], _ => rfl)
theorem sc_Layout_call_slot : FnScope ["self", "thread"] ["self", "thread"] (defScope (inClass (top 19) 3)) := ⟨rfl, rfl, rfl, by decide +kernel, rfl, by decide +kernel, by decide +kernel⟩
theorem bo_Layout_call_slot (T : Txt fa fn fx ts w K mg) (f : Addr) : Body0 P w K mg base ["self", "thread"] "Layout.call_slot" (defBody (inClass (top 19) 3)) (defScope (inClass (top 19) 3)) f 0 b_Layout_call_slot := fun cdv A outer s H E hr => (rs_one (rs_ret (re_add (re_add re_int (re_fld (rv 0) (plOk_by (by decide +kernel)))) (rv 1))))
theorem g_Layout_call_slot (T : Txt fa fn fx ts w K mg) : MF P w K mg base CX0 1 0 "call_slot" 2 m_Layout_call_slot [] :=
  mf0 (mm := m_Layout_call_slot) (by exact Wk.trunc) (params := defArgs (inClass (top 19) 3)) (body := defBody (inClass (top 19) 3)) (scope := defScope (inClass (top 19) 3)) (m := "call_slot") (q := "Layout.call_slot") T 16 44 36 0 sc_Layout_call_slot (b := b_Layout_call_slot) (bo_Layout_call_slot T) (fun _ _ _ _ _ _ us hl => match us, hl with | [_, _], _ => rfl)
theorem sc_Layout_record : FnScope ["self", "index"] ["self", "index"] (defScope (inClass (top 19) 5)) := ⟨rfl, rfl, rfl, by decide +kernel, rfl, by decide +kernel, by decide +kernel⟩
theorem bo_Layout_record (T : Txt fa fn fx ts w K mg) (f : Addr) : Body0 P w K mg base ["self", "index"] "Layout.record" (defBody (inClass (top 19) 5)) (defScope (inClass (top 19) 5)) f 0 b_Layout_record := fun cdv A outer s H E hr => (rs_one (rs_ret (re_add (re_add (re_add re_int (re_mul re_int (re_fld (rv 0) (plOk_by (by decide +kernel))))) (re_fld (rv 0) (plOk_by (by decide +kernel)))) (rv 1))))
theorem g_Layout_record (T : Txt fa fn fx ts w K mg) : MF P w K mg base CX0 1 0 "record" 2 m_Layout_record [] :=
  mf0 (mm := m_Layout_record) (by exact Wk.trunc) (params := defArgs (inClass (top 19) 5)) (body := defBody (inClass (top 19) 5)) (scope := defScope (inClass (top 19) 5)) (m := "record") (q := "Layout.record") T 17 45 36 0 sc_Layout_record (b := b_Layout_record) (bo_Layout_record T) (fun _ _ _ _ _ _ us hl => match us, hl with | [_, _], _ => rfl)
theorem sc_Layout_cells : FnScope ["self"] ["self"] (defScope (inClass (top 19) 6)) := ⟨rfl, rfl, rfl, by decide +kernel, rfl, by decide +kernel, by decide +kernel⟩
theorem bo_Layout_cells (T : Txt fa fn fx ts w K mg) (f : Addr) : Body0 P w K mg base ["self"] "Layout.cells" (defBody (inClass (top 19) 6)) (defScope (inClass (top 19) 6)) f 1 b_Layout_cells := fun cdv A outer s H E hr => (rs_one (rs_ret (re_meth (rv 0) (g_Layout_record T) runDefT_ar (hr.mono (by decide)) passE (ra_cons (re_fld (rv 0) (plOk_by (by decide +kernel))) ra_nil))))
theorem g_Layout_cells (T : Txt fa fn fx ts w K mg) : MF P w K mg base CX0 2 0 "cells" 1 m_Layout_cells [] :=
  mf0 (mm := m_Layout_cells) (by exact Wk.trunc) (params := defArgs (inClass (top 19) 6)) (body := defBody (inClass (top 19) 6)) (scope := defScope (inClass (top 19) 6)) (m := "cells") (q := "Layout.cells") T 18 46 36 0 sc_Layout_cells (b := b_Layout_cells) (bo_Layout_cells T) (fun _ _ _ _ _ _ us hl => match us, hl with | [_], _ => rfl)
theorem sc_Layout_is_lasting : FnScope ["self", "cell"] ["self", "cell"] (defScope (inClass (top 19) 8)) := ⟨rfl, rfl, rfl, by decide +kernel, rfl, by decide +kernel, by decide +kernel⟩
theorem bo_Layout_is_lasting (T : Txt fa fn fx ts w K mg) (f : Addr) : Body0 P w K mg base ["self", "cell"] "Layout.is_lasting" (defBody (inClass (top 19) 8)) (defScope (inClass (top 19) 8)) f 2 b_Layout_is_lasting := fun cdv A outer s H E hr => (rs_one (rs_ret (re_chain op_le op_lt s_le s_lt (re_meth (rv 0) (g_Layout_call_slot T) runDefT_ar (hr.mono (by decide)) passE (ra_cons re_int ra_nil)) (rv 1) (re_meth0 (rv 0) (g_Layout_cells T) runDefT_ar (hr.mono (by decide)) passE))))
theorem g_Layout_is_lasting (T : Txt fa fn fx ts w K mg) : MF P w K mg base CX0 3 0 "is_lasting" 2 m_Layout_is_lasting [] :=
  mf0 (mm := m_Layout_is_lasting) (by exact Wk.trunc) (params := defArgs (inClass (top 19) 8)) (body := defBody (inClass (top 19) 8)) (scope := defScope (inClass (top 19) 8)) (m := "is_lasting") (q := "Layout.is_lasting") T 19 47 36 0 sc_Layout_is_lasting (b := b_Layout_is_lasting) (bo_Layout_is_lasting T) (fun _ _ _ _ _ _ us hl => match us, hl with | [_, _], _ => rfl)
theorem sc_Memory_give : FnScope ["self", "cell", "value"] ["self", "cell", "value"] (defScope (inClass (top 20) 7)) := ⟨rfl, rfl, rfl, by decide +kernel, rfl, by decide +kernel, by decide +kernel⟩
theorem bo_Memory_give (T : Txt fa fn fx ts w K mg) (f : Addr) : Body0 P w K mg base ["self", "cell", "value"] "Memory.give" (defBody (inClass (top 20) 7)) (defScope (inClass (top 20) 7)) f 3 b_Memory_give := fun cdv A outer s H E hr => (rs_one (rs_if (rt_truth (re_meth (re_fld (rv 0) (plOk_by (by decide +kernel))) (g_Layout_is_lasting T) runDefT_ar (hr.mono (by decide)) passE (ra_cons (rv 1) ra_nil))) (rs_one (rs_ex (re_app (re_ixA hr.units (re_fld (rv 0) (plOk_by (by decide +kernel))) (rv 1)) (rv 2)))) (rs_one (rs_put hr.units (re_fld (rv 0) (plOk_by (by decide +kernel))) (rv 1) (re_lst (ra_cons (rv 2) ra_nil))))))
theorem g_Memory_give (T : Txt fa fn fx ts w K mg) : MF P w K mg base CX0 4 1 "give" 3 m_Memory_give [] :=
  mf0 (mm := m_Memory_give) (by exact Wk.refl) (params := defArgs (inClass (top 20) 7)) (body := defBody (inClass (top 20) 7)) (scope := defScope (inClass (top 20) 7)) (m := "give") (q := "Memory.give") T 20 54 48 1 sc_Memory_give (b := b_Memory_give) (bo_Memory_give T) (fun _ _ _ _ _ _ us hl => match us, hl with | [_, _, _], _ => rfl)
theorem sc_Memory_shorten : FnScope ["self", "cell", "steps", "places"] ["self", "cell", "steps"] (defScope (inClass (top 20) 9)) := ⟨rfl, rfl, rfl, by decide +kernel, rfl, by decide +kernel, by decide +kernel⟩
theorem bo_Memory_shorten (T : Txt fa fn fx ts w K mg) (f : Addr) : Body0 P w K mg base ["self", "cell", "steps", "places"] "Memory.shorten" (defBody (inClass (top 20) 9)) (defScope (inClass (top 20) 9)) f 0 b_Memory_shorten := fun cdv A outer s H E hr => (rs_cons (rst 2 sc_Memory_shorten.nd (re_callB (call_max2 rfl) s_max (by rfl) (T.free 55) (by decide +kernel) (ra_cons re_int (ra_cons (re_callB (call_min2 rfl) s_min (by rfl) (T.free 56) (by decide +kernel) (ra_cons (rv 2) (ra_cons (re_sub (re_callB call_len s_len (by rfl) (T.free 8) (by decide +kernel) (ra_cons (re_ixA hr.units (re_fld (rv 0) (plOk_by (by decide +kernel))) (rv 1)) ra_nil)) re_int) ra_nil))) ra_nil))))
  (rs_cons (rs_put hr.units (re_fld (rv 0) (plOk_by (by decide +kernel))) (rv 1) (re_sl (re_ixA hr.units (re_fld (rv 0) (plOk_by (by decide +kernel))) (rv 1)) (ro_some (rv 2)) ro_none))
  (rs_one (rs_forA PassesOwn.never rfl (re_fld (rv 0) (plOk_by (by decide +kernel))) (rgn 3 sc_Memory_shorten.nd) (rs_one (rs_if (rt_inA hr.units (rv 1) (rv 3)) (rs_one (rs_put hr.units (rv 3) (rv 1) (re_callB (call_max2 rfl) s_max (by rfl) (T.free 55) (by decide +kernel) (ra_cons re_int (ra_cons (re_sub (re_ixA hr.units (rv 3) (rv 1)) (rv 2)) ra_nil))))) rs_nil))))))
theorem g_Memory_shorten (T : Txt fa fn fx ts w K mg) : MF P w K mg base CX0 1 1 "shorten" 3 m_Memory_shorten [] :=
  mf0 (mm := m_Memory_shorten) (by exact Wk.refl) (params := defArgs (inClass (top 20) 9)) (body := defBody (inClass (top 20) 9)) (scope := defScope (inClass (top 20) 9)) (m := "shorten") (q := "Memory.shorten") T 21 57 48 1 sc_Memory_shorten (b := b_Memory_shorten) (bo_Memory_shorten T) (fun _ _ _ _ _ _ us hl => match us, hl with | [_, _, _], _ => rfl)
theorem sc_Memory_fence : FnScope ["self", "thread", "places", "cell"] ["self", "thread"] (defScope (inClass (top 20) 8)) := ⟨rfl, rfl, rfl, by decide +kernel, rfl, by decide +kernel, by decide +kernel⟩
theorem bo_Memory_fence (T : Txt fa fn fx ts w K mg) (f : Addr) : Body0 P w K mg base ["self", "thread", "places", "cell"] "Memory.fence" (defBody (inClass (top 20) 8)) (defScope (inClass (top 20) 8)) f 1 b_Memory_fence := fun cdv A outer s H E hr => (rs_cons (rst 2 sc_Memory_fence.nd (re_ixA hr.units (re_fld (rv 0) (plOk_by (by decide +kernel))) (rv 1)))
  (rs_cons (rs_put hr.units (re_fld (rv 0) (plOk_by (by decide +kernel))) (rv 1) re_dic0)
  (rs_one (rs_forA PassesOwn.never rfl (re_callB (CallR.or1 (CallR.or1 cr_sortedI (call_sortedDI rfl)) (cr_sortT hr.units)) ((s_sortL.or s_sortD).or s_sortT) (by rfl) (T.free 27) (by decide +kernel) (ra_cons (rv 2) ra_nil)) (rgn 3 sc_Memory_fence.nd) (rs_one (rs_ex (re_meth (rv 0) (g_Memory_shorten T) runDef_ar (hr.mono (by decide)) passE (ra_cons (rv 3) (ra_cons (re_ixA hr.units (rv 2) (rv 3)) ra_nil)))))))))
theorem g_Memory_fence (T : Txt fa fn fx ts w K mg) : MF P w K mg base CX0 2 1 "fence" 2 m_Memory_fence [] :=
  mf0 (mm := m_Memory_fence) (by exact Wk.refl) (params := defArgs (inClass (top 20) 8)) (body := defBody (inClass (top 20) 8)) (scope := defScope (inClass (top 20) 8)) (m := "fence") (q := "Memory.fence") T 22 58 48 1 sc_Memory_fence (b := b_Memory_fence) (bo_Memory_fence T) (fun _ _ _ _ _ _ us hl => match us, hl with | [_, _], _ => rfl)
theorem sc_Memory_result : FnScope ["self", "thread", "request", "kind", "cell", "value"] ["self", "thread", "request"] (defScope (inClass (top 20) 6)) := ⟨rfl, rfl, rfl, by decide +kernel, rfl, by decide +kernel, by decide +kernel⟩
theorem bo_Memory_result (T : Txt fa fn fx ts w K mg) (f : Addr) : Body0 P w K mg base ["self", "thread", "request", "kind", "cell", "value"] "Memory.result" (defBody (inClass (top 20) 6)) (defScope (inClass (top 20) 6)) f 4 b_Memory_result := fun cdv A outer s H E hr => (rs_cons (rst 3 sc_Memory_result.nd (re_ixA hr.units (rv 2) re_int))
  (rs_cons (rs_if (rt_eqA hr.units (rv 3) (re_str (k := 7))) (rs_one (rs_ret (re_meth (rv 0) (g_Memory_fence T) runDef_ar (hr.mono (by decide)) passE (ra_cons (rv 1) ra_nil)))) rs_nil)
  (rs_cons (rst 4 sc_Memory_result.nd (re_ixA hr.units (rv 2) re_int))
  (rs_cons (rs_if (rt_eqA hr.units (rv 3) (re_str (k := 6))) (rs_cons (rs_put hr.units (re_ixA hr.units (re_fld (rv 0) (plOk_by (by decide +kernel))) (rv 1)) (rv 4) (re_sub (re_callB call_len s_len (by rfl) (T.free 8) (by decide +kernel) (ra_cons (re_ixA hr.units (re_fld (rv 0) (plOk_by (by decide +kernel))) (rv 4)) ra_nil)) re_int))
  (rs_one (rs_ret re_non))) rs_nil)
  (rs_cons (rst 5 sc_Memory_result.nd (re_ixA hr.units (re_ixA hr.units (re_fld (rv 0) (plOk_by (by decide +kernel))) (rv 4)) (re_neg re_int)))
  (rs_cons (rs_if (rt_eqA hr.units (rv 3) (re_str (k := 2))) (rs_one (rs_ret (rv 5))) rs_nil)
  (rs_cons (rs_if (rt_eqA hr.units (rv 3) (re_str (k := 3))) (rs_cons (rs_ex (re_meth (rv 0) (g_Memory_give T) runDef_ar (hr.mono (by decide)) passE (ra_cons (rv 4) (ra_cons (re_ixA hr.units (rv 2) re_int) ra_nil))))
  (rs_one (rs_ret re_non))) rs_nil)
  (rs_cons (rs_if (rt_eqA hr.units (rv 3) (re_str (k := 4))) (rs_cons (rs_if (rt_neA hr.units (rv 5) (re_ixA hr.units (rv 2) re_int)) (rs_one (rs_ret re_bl)) rs_nil)
  (rs_cons (rs_ex (re_meth (rv 0) (g_Memory_give T) runDef_ar (hr.mono (by decide)) passE (ra_cons (rv 4) (ra_cons (re_ixA hr.units (rv 2) re_int) ra_nil))))
  (rs_one (rs_ret re_bl)))) rs_nil)
  (rs_cons (rs_if (rt_neA hr.units (rv 5) re_int) (rs_one (rs_ret re_bl)) rs_nil)
  (rs_cons (rs_ex (re_meth (rv 0) (g_Memory_give T) runDef_ar (hr.mono (by decide)) passE (ra_cons (rv 4) (ra_cons (re_tup (ra_cons (re_ixA hr.units (rv 2) re_int) (ra_cons (re_fld (rv 0) (plOk_by (by decide +kernel))) ra_nil))) ra_nil))))
  (rs_one (rs_ret re_bl))))))))))))
theorem g_Memory_result (T : Txt fa fn fx ts w K mg) : MF P w K mg base CX0 5 1 "result" 3 m_Memory_result [] :=
  mf0 (mm := m_Memory_result) (by exact Wk.refl) (params := defArgs (inClass (top 20) 6)) (body := defBody (inClass (top 20) 6)) (scope := defScope (inClass (top 20) 6)) (m := "result") (q := "Memory.result") T 23 59 48 1 sc_Memory_result (b := b_Memory_result) (bo_Memory_result T) (fun _ _ _ _ _ _ us hl => match us, hl with | [_, _, _], _ => rfl)
theorem sc_is_within : FnScope ["value", "low", "high"] ["value", "low", "high"] (defScope (top 18)) := ⟨rfl, rfl, rfl, by decide +kernel, rfl, by decide +kernel, by decide +kernel⟩
theorem bo_is_within (T : Txt fa fn fx ts w K mg) (f : Addr) : Body0 P w K mg base ["value", "low", "high"] "is_within" (defBody (top 18)) (defScope (top 18)) f 0 b_is_within := fun cdv A outer s H E hr => (rs_one (rs_ret (re_and (re_isi (T := "int") (by decide) rfl (T.free 60) (pty T 32 (by decide +kernel)) (rv 0)) (re_and (re_not (re_isi (T := "bool") (by decide) rfl (T.free 60) (pty T 61 (by decide +kernel)) (rv 0))) (re_one (re_chain op_le op_le s_le s_le (rv 1) (rv 0) (rv 2)))))))
theorem g_is_within (T : Txt fa fn fx ts w K mg) : GF P w K mg base CX0 1 "is_within" 3 m_is_within [] :=
  gf0 (mm := m_is_within) (by exact Wk.trunc) (params := defArgs (top 18)) (body := defBody (top 18)) (scope := defScope (top 18)) (x := "is_within") T 24 62 sc_is_within (b := b_is_within) (bo_is_within T) (fun _ _ _ _ _ _ us hl => match us, hl with | [_, _, _], _ => rfl)
theorem sc_Memory_check_cell : FnScope ["self", "cell"] ["self", "cell"] (defScope (inClass (top 20) 2)) := ⟨rfl, rfl, rfl, by decide +kernel, rfl, by decide +kernel, by decide +kernel⟩
theorem bo_Memory_check_cell (T : Txt fa fn fx ts w K mg) (f : Addr) : Body0 P w K mg base ["self", "cell"] "Memory.check_cell" (defBody (inClass (top 20) 2)) (defScope (inClass (top 20) 2)) f 1 b_Memory_check_cell := fun cdv A outer s H E hr => (rs_one (rs_if (rt_not (rt_truth (re_call (g_is_within T) runDefT_ar (hr.mono (by decide)) (by rfl) passE (ra_cons (rv 1) (ra_cons re_int (ra_cons (re_sub (re_callB call_len s_len (by rfl) (T.free 8) (by decide +kernel) (ra_cons (re_fld (rv 0) (plOk_by (by decide +kernel))) ra_nil)) re_int) ra_nil)))))) (rs_one rs_never) rs_nil))
theorem g_Memory_check_cell (T : Txt fa fn fx ts w K mg) : MF P w K mg base CX0 2 1 "check_cell" 2 m_Memory_check_cell [] :=
  mf0 (mm := m_Memory_check_cell) (by exact Wk.refl) (params := defArgs (inClass (top 20) 2)) (body := defBody (inClass (top 20) 2)) (scope := defScope (inClass (top 20) 2)) (m := "check_cell") (q := "Memory.check_cell") T 25 63 48 1 sc_Memory_check_cell (b := b_Memory_check_cell) (bo_Memory_check_cell T) (fun _ _ _ _ _ _ us hl => match us, hl with | [_, _], _ => rfl)
theorem sc_Memory_check_lasting : FnScope ["self", "cell"] ["self", "cell"] (defScope (inClass (top 20) 3)) := ⟨rfl, rfl, rfl, by decide +kernel, rfl, by decide +kernel, by decide +kernel⟩
theorem bo_Memory_check_lasting (T : Txt fa fn fx ts w K mg) (f : Addr) : Body0 P w K mg base ["self", "cell"] "Memory.check_lasting" (defBody (inClass (top 20) 3)) (defScope (inClass (top 20) 3)) f 3 b_Memory_check_lasting := fun cdv A outer s H E hr => (rs_cons (rs_ex (re_meth (rv 0) (g_Memory_check_cell T) runDef_ar (hr.mono (by decide)) passE (ra_cons (rv 1) ra_nil)))
  (rs_one (rs_if (rt_not (rt_truth (re_meth (re_fld (rv 0) (plOk_by (by decide +kernel))) (g_Layout_is_lasting T) runDefT_ar (hr.mono (by decide)) passE (ra_cons (rv 1) ra_nil)))) (rs_one rs_never) rs_nil)))
theorem g_Memory_check_lasting (T : Txt fa fn fx ts w K mg) : MF P w K mg base CX0 4 1 "check_lasting" 2 m_Memory_check_lasting [] :=
  mf0 (mm := m_Memory_check_lasting) (by exact Wk.refl) (params := defArgs (inClass (top 20) 3)) (body := defBody (inClass (top 20) 3)) (scope := defScope (inClass (top 20) 3)) (m := "check_lasting") (q := "Memory.check_lasting") T 26 64 48 1 sc_Memory_check_lasting (b := b_Memory_check_lasting) (bo_Memory_check_lasting T) (fun _ _ _ _ _ _ us hl => match us, hl with | [_, _], _ => rfl)
theorem sc_Memory_check_request : FnScope ["self", "thread", "request"] ["self", "thread", "request"] (defScope (inClass (top 20) 4)) := ⟨rfl, rfl, rfl, by decide +kernel, rfl, by decide +kernel, by decide +kernel⟩
theorem bo_Memory_check_request (T : Txt fa fn fx ts w K mg) (f : Addr) : Body0 P w K mg base ["self", "thread", "request"] "Memory.check_request" (defBody (inClass (top 20) 4)) (defScope (inClass (top 20) 4)) f 4 b_Memory_check_request := fun cdv A outer s H E hr => (rs_cons (rs_if (rt_bool (rw_or (rt_not (rt_truth (re_call (g_is_within T) runDefT_ar (hr.mono (by decide)) (by rfl) passE (ra_cons (rv 1) (ra_cons re_int (ra_cons (re_sub (re_fld (re_fld (rv 0) (plOk_by (by decide +kernel))) (plOk_by (by decide +kernel))) re_int) ra_nil)))))) (rw_or (rt_not (rt_truth (re_isi (T := "tuple") (by decide) rfl (T.free 60) (pty T 66 (by decide +kernel)) (rv 2)))) (rw_or1 (rt_eqA hr.units (re_callB call_len s_len (by rfl) (T.free 8) (by decide +kernel) (ra_cons (rv 2) ra_nil)) re_int))))) (rs_one rs_never) rs_nil)
  (rs_cons (rs_if (rt_neA hr.units (re_kget T 65 0 0 (re_ixA hr.units (rv 2) re_int) ⟨rfl, rfl, rfl, rfl⟩) (re_callB call_len s_len (by rfl) (T.free 8) (by decide +kernel) (ra_cons (rv 2) ra_nil))) (rs_one rs_never) rs_nil)
  (rs_one (rs_if (rt_eqA hr.units (re_ixA hr.units (rv 2) re_int) (re_str (k := 6))) (rs_one (rs_ex (re_meth (rv 0) (g_Memory_check_lasting T) runDef_ar (hr.mono (by decide)) passE (ra_cons (re_ixA hr.units (rv 2) re_int) ra_nil)))) (rs_one (rs_if (rt_neA hr.units (re_ixA hr.units (rv 2) re_int) (re_str (k := 7))) (rs_one (rs_ex (re_meth (rv 0) (g_Memory_check_cell T) runDef_ar (hr.mono (by decide)) passE (ra_cons (re_ixA hr.units (rv 2) re_int) ra_nil)))) rs_nil))))))
theorem g_Memory_check_request (T : Txt fa fn fx ts w K mg) : MF P w K mg base CX0 5 1 "check_request" 3 m_Memory_check_request [] :=
  mf0 (mm := m_Memory_check_request) (by exact Wk.refl) (params := defArgs (inClass (top 20) 4)) (body := defBody (inClass (top 20) 4)) (scope := defScope (inClass (top 20) 4)) (m := "check_request") (q := "Memory.check_request") T 27 67 48 1 sc_Memory_check_request (b := b_Memory_check_request) (bo_Memory_check_request T) (fun _ _ _ _ _ _ us hl => match us, hl with | [_, _, _], _ => rfl)
theorem sc_Memory_access : FnScope ["self", "thread", "request"] ["self", "thread", "request"] (defScope (inClass (top 20) 5)) := ⟨rfl, rfl, rfl, by decide +kernel, rfl, by decide +kernel, by decide +kernel⟩
theorem bo_Memory_access (T : Txt fa fn fx ts w K mg) (f : Addr) : Body0 P w K mg base ["self", "thread", "request"] "Memory.access" (defBody (inClass (top 20) 5)) (defScope (inClass (top 20) 5)) f 5 b_Memory_access := fun cdv A outer s H E hr => (rs_cons (rs_ex (re_meth (rv 0) (g_Memory_check_request T) runDef_ar (hr.mono (by decide)) passE (ra_cons (rv 1) (ra_cons (rv 2) ra_nil))))
  (rs_cons (rs_fldaug (by decide +kernel) (rv 0) re_int)
  (rs_cons (rs_ex (re_app (re_fld (rv 0) (plOk_by (by decide +kernel))) (re_tup (ra_cons (re_fld (rv 0) (plOk_by (by decide +kernel))) (ra_cons (rv 1) (ra_cons (rv 2) ra_nil))))))
  (rs_one (rs_ret (re_tup (ra_cons (re_meth (rv 0) (g_Memory_result T) runDef_ar (hr.mono (by decide)) passE (ra_cons (rv 1) (ra_cons (rv 2) ra_nil))) (ra_cons (re_fld (rv 0) (plOk_by (by decide +kernel))) ra_nil))))))))
theorem g_Memory_access (T : Txt fa fn fx ts w K mg) : MF P w K mg base CX0 6 1 "access" 3 m_Memory_access [] :=
  mf0 (mm := m_Memory_access) (by exact Wk.refl) (params := defArgs (inClass (top 20) 5)) (body := defBody (inClass (top 20) 5)) (scope := defScope (inClass (top 20) 5)) (m := "access") (q := "Memory.access") T 28 68 48 1 sc_Memory_access (b := b_Memory_access) (bo_Memory_access T) (fun _ _ _ _ _ _ us hl => match us, hl with | [_, _, _], _ => rfl)
theorem sc_Stack_step : FnScope ["self", "memory", "thread", "top"] ["self", "memory", "thread"] (defScope (inClass (top 2) 3)) := ⟨rfl, rfl, rfl, by decide +kernel, rfl, by decide +kernel, by decide +kernel⟩
theorem bo_Stack_step (T : Txt fa fn fx ts w K mg) (f : Addr) : Body0 P w K mg base ["self", "memory", "thread", "top"] "Stack.step" (defBody (inClass (top 2) 3)) (defScope (inClass (top 2) 3)) f 7 b_Stack_step := fun cdv A outer s H E hr => (rs_cons (rs_ex (re_meth0 (rv 0) (g_Stack_settle T) runDef_ar (hr.mono (by decide)) passE))
  (rs_cons (rs_if (rt_not (rt_truth (re_fld (rv 0) (plOk_by (by decide +kernel))))) (rs_one (rs_ret re_bl)) rs_nil)
  (rs_cons (rst 3 sc_Stack_step.nd (re_ixA hr.units (re_fld (rv 0) (plOk_by (by decide +kernel))) (re_neg re_int)))
  (rs_cons (rs_ex (meth_cons (re_meth (rv 3) (g_Entering_accept T) runDef_ar (hr.mono (by decide)) passE (ra_cons (re_meth (rv 1) (g_Memory_access T) runDef_ar (hr.mono (by decide)) passE (ra_cons (rv 2) (ra_cons (meth_cons (re_meth0 (rv 3) (g_Entering_request T) runDefT_ar (hr.mono (by decide)) passE) (re_meth0 (rv 3) (g_Leaving_request T) runDefT_ar (hr.mono (by decide)) passE)) ra_nil))) ra_nil)) (re_meth (rv 3) (g_Leaving_accept T) runDef_ar (hr.mono (by decide)) passE (ra_cons (re_meth (rv 1) (g_Memory_access T) runDef_ar (hr.mono (by decide)) passE (ra_cons (rv 2) (ra_cons (meth_cons (re_meth0 (rv 3) (g_Entering_request T) runDefT_ar (hr.mono (by decide)) passE) (re_meth0 (rv 3) (g_Leaving_request T) runDefT_ar (hr.mono (by decide)) passE)) ra_nil))) ra_nil))))
  (rs_cons (rs_ex (re_meth0 (rv 0) (g_Stack_settle T) runDef_ar (hr.mono (by decide)) passE))
  (rs_one (rs_ret re_bl)))))))
theorem g_Stack_step (T : Txt fa fn fx ts w K mg) : MF P w K mg base CX0 8 3 "step" 3 m_Stack_step [] :=
  mf0 (mm := m_Stack_step) (by exact Wk.refl) (params := defArgs (inClass (top 2) 3)) (body := defBody (inClass (top 2) 3)) (scope := defScope (inClass (top 2) 3)) (m := "step") (q := "Stack.step") T 29 69 9 3 sc_Stack_step (b := b_Stack_step) (bo_Stack_step T) (fun _ _ _ _ _ _ us hl => match us, hl with | [_, _, _], _ => rfl)
theorem sc_Stack_init : FnScope ["self", "machine"] ["self", "machine"] (defScope (inClass (top 2) 0)) := ⟨rfl, rfl, rfl, by decide +kernel, rfl, by decide +kernel, by decide +kernel⟩
theorem bo_Stack_init (T : Txt fa fn fx ts w K mg) (f : Addr) : Body0 P w K mg base ["self", "machine"] "Stack.__init__" (defBody (inClass (top 2) 0)) (defScope (inClass (top 2) 0)) f 0 b_Stack_init := fun cdv A outer s H E hr => (rs_cons (rs_fld (by decide +kernel) (rv 0) (re_lst (ra_cons (rv 1) ra_nil)))
  (rs_one (rs_fld (by decide +kernel) (rv 0) re_non)))
theorem g_Stack_init (T : Txt fa fn fx ts w K mg) : CF P w K mg base CX0 1 3 2 m_Stack_init [] :=
  cf0 (mm := m_Stack_init) (by exact Wk.refl) (params := defArgs (inClass (top 2) 0)) (body := defBody (inClass (top 2) 0)) (scope := defScope (inClass (top 2) 0)) (q := "Stack.__init__") T 30 71 72 3 (T.clsOk 3 9 10) sc_Stack_init (b := b_Stack_init) (bo_Stack_init T) (fun _ _ _ _ _ _ us hl => match us, hl with | [_, _], _ => rfl)
theorem sc_Leaving_init : FnScope ["self", "store", "thread"] ["self", "store"] (defScope (inClass (top 8) 0)) := ⟨rfl, rfl, rfl, by decide +kernel, rfl, by decide +kernel, by decide +kernel⟩
theorem bo_Leaving_init (T : Txt fa fn fx ts w K mg) (f : Addr) : Body0 P w K mg base ["self", "store", "thread"] "Leaving.__init__" (defBody (inClass (top 8) 0)) (defScope (inClass (top 8) 0)) f 0 b_Leaving_init := fun cdv A outer s H E hr => (rs_cons (rs_fld (by decide +kernel) (rv 0) (rv 1))
  (rs_cons (rs_fld (by decide +kernel) (rv 0) re_non)
  (rs_cons (rs_fld (by decide +kernel) (rv 0) (re_lcFR1 (by rfl) sc_Leaving_init.nd (by rfl) (by exact T.free 70) (ra_cons (re_fld (re_fld (rv 1) (plOk_by (by decide +kernel))) (plOk_by (by decide +kernel))) ra_nil) (blkOk_by (own := [("thread", 2)]) (by show blkC ["self", "store", "thread"] (defScope (inClass (top 8) 0)) _ _ = true; decide +kernel)) (by decide) (fun _ _ _ _ _ => (rgn 2 sc_Leaving_init.nd)) (fun _ _ _ _ _ => (rts_one (rt_neA hr.units (rv 2) (re_fld (rv 1) (plOk_by (by decide +kernel)))))) (fun _ _ _ _ _ => (rv 2))))
  (rs_cons (rs_fld (by decide +kernel) (rv 0) (re_str (k := 28)))
  (rs_one (rs_if (rt_truth (re_fld (rv 1) (plOk_by (by decide +kernel)))) (rs_one (rs_fld (by decide +kernel) (rv 0) (re_str (k := 30)))) rs_nil))))))
theorem g_Leaving_init (T : Txt fa fn fx ts w K mg) : CF P w K mg base CX0 1 7 2 m_Leaving_init [] :=
  cf0 (mm := m_Leaving_init) (by exact Wk.refl) (params := defArgs (inClass (top 8) 0)) (body := defBody (inClass (top 8) 0)) (scope := defScope (inClass (top 8) 0)) (q := "Leaving.__init__") T 31 73 74 7 (T.clsOk 7 20 21) sc_Leaving_init (b := b_Leaving_init) (bo_Leaving_init T) (fun _ _ _ _ _ _ us hl => match us, hl with | [_, _], _ => rfl)
theorem sc_Entering_init : FnScope ["self", "store"] ["self", "store"] (defScope (inClass (top 7) 0)) := ⟨rfl, rfl, rfl, by decide +kernel, rfl, by decide +kernel, by decide +kernel⟩
theorem bo_Entering_init (T : Txt fa fn fx ts w K mg) (f : Addr) : Body0 P w K mg base ["self", "store"] "Entering.__init__" (defBody (inClass (top 7) 0)) (defScope (inClass (top 7) 0)) f 1 b_Entering_init := fun cdv A outer s H E hr => (rs_cons (rs_fld (by decide +kernel) (rv 0) (re_meth0 (re_fld (rv 1) (plOk_by (by decide +kernel))) (g_Layout_epoch T) runDefT_ar (hr.mono (by decide)) passE))
  (rs_cons (rs_fld (by decide +kernel) (rv 0) (re_meth (re_fld (rv 1) (plOk_by (by decide +kernel))) (g_Layout_epoch_slot T) runDefT_ar (hr.mono (by decide)) passE (ra_cons (re_fld (rv 1) (plOk_by (by decide +kernel))) ra_nil)))
  (rs_cons (rs_fld (by decide +kernel) (rv 0) (re_str (k := 2)))
  (rs_one (rs_fld (by decide +kernel) (rv 0) re_non)))))
theorem g_Entering_init (T : Txt fa fn fx ts w K mg) : CF P w K mg base CX0 2 6 2 m_Entering_init [] :=
  cf0 (mm := m_Entering_init) (by exact Wk.refl) (params := defArgs (inClass (top 7) 0)) (body := defBody (inClass (top 7) 0)) (scope := defScope (inClass (top 7) 0)) (q := "Entering.__init__") T 32 75 76 6 (T.clsOk 6 13 14) sc_Entering_init (b := b_Entering_init) (bo_Entering_init T) (fun _ _ _ _ _ _ us hl => match us, hl with | [_, _], _ => rfl)
theorem sc__law_alone : FnScope ["_law_memory", "_law_store_here", "_law_thread", "_law_turn", "_law_machine", "_law_stack", "_law_step"] ["_law_memory", "_law_store_here", "_law_thread"] (defScope (top 29)) := ⟨rfl, rfl, rfl, by decide +kernel, rfl, by decide +kernel, by decide +kernel⟩
theorem bo__law_alone (T : Txt fa fn fx ts w K mg) (f : Addr) : Body0 P w K mg base ["_law_memory", "_law_store_here", "_law_thread", "_law_turn", "_law_machine", "_law_stack", "_law_step"] "_law_alone" (defBody (top 29)) (defScope (top 29)) f 8 b__law_alone := fun cdv A outer s H E hr => (rs_cons (rs_forR1 PassesOwn.never rfl rfl (T.free 70) (ra_cons re_int ra_nil) (rgn 3 sc__law_alone.nd) (rs_one (rs_forA PassesOwn.never rfl (re_lst (ra_cons (re_make (g_Entering_init T) rfl runDef_ar (hr.mono (by decide)) (by rfl) passE (ra_cons (rv 1) ra_nil)) (ra_cons (re_make (g_Leaving_init T) rfl runDef_ar (hr.mono (by decide)) (by rfl) passE (ra_cons (rv 1) ra_nil)) ra_nil))) (rgn 4 sc__law_alone.nd) (rs_cons (rst 5 sc__law_alone.nd (re_make (g_Stack_init T) rfl runDef_ar (hr.mono (by decide)) (by rfl) passE (ra_cons (rv 4) ra_nil)))
  (rs_cons (rs_forR1 PassesOwn.never rfl rfl (T.free 70) (ra_cons re_int ra_nil) (rgn 6 sc__law_alone.nd) (rs_one (rs_if (rt_not (rt_truth (re_meth (rv 5) (g_Stack_step T) runDef_ar (hr.mono (by decide)) passE (ra_cons (rv 0) (ra_cons (rv 2) ra_nil))))) (rs_one rs_break) rs_nil)))
  (rs_one (rs_if (rt_not (rt_truth (re_meth0 (rv 5) (g_Stack_ended T) runDefT_ar (hr.mono (by decide)) passE))) (rs_one (rs_ret re_bl)) rs_nil)))))))
  (rs_one (rs_ret (re_eqA hr.units (re_meth0 (rv 1) (g_Store_waiting T) runDefT_ar (hr.mono (by decide)) passE) (re_lst ra_nil)))))
theorem g__law_alone (T : Txt fa fn fx ts w K mg) : GF P w K mg base CX0 9 "_law_alone" 3 m__law_alone [] :=
  gf0 (mm := m__law_alone) (by exact Wk.refl) (params := defArgs (top 29)) (body := defBody (top 29)) (scope := defScope (top 29)) (x := "_law_alone") T 33 77 sc__law_alone (b := b__law_alone) (bo__law_alone T) (fun _ _ _ _ _ _ us hl => match us, hl with | [_, _, _], _ => rfl)
theorem sc_Memory_peek : FnScope ["self", "cell"] ["self", "cell"] (defScope (inClass (top 20) 10)) := ⟨rfl, rfl, rfl, by decide +kernel, rfl, by decide +kernel, by decide +kernel⟩
theorem bo_Memory_peek (T : Txt fa fn fx ts w K mg) (f : Addr) : Body0 P w K mg base ["self", "cell"] "Memory.peek" (defBody (inClass (top 20) 10)) (defScope (inClass (top 20) 10)) f 2 b_Memory_peek := fun cdv A outer s H E hr => (rs_cons (rs_ex (re_meth (rv 0) (g_Memory_check_cell T) runDef_ar (hr.mono (by decide)) passE (ra_cons (rv 1) ra_nil)))
  (rs_one (rs_ret (re_ixA hr.units (re_ixA hr.units (re_fld (rv 0) (plOk_by (by decide +kernel))) (rv 1)) (re_neg re_int)))))
theorem g_Memory_peek (T : Txt fa fn fx ts w K mg) : MF P w K mg base CX0 3 1 "peek" 2 m_Memory_peek [] :=
  mf0 (mm := m_Memory_peek) (by exact Wk.refl) (params := defArgs (inClass (top 20) 10)) (body := defBody (inClass (top 20) 10)) (scope := defScope (inClass (top 20) 10)) (m := "peek") (q := "Memory.peek") T 34 78 48 1 sc_Memory_peek (b := b_Memory_peek) (bo_Memory_peek T) (fun _ _ _ _ _ _ us hl => match us, hl with | [_, _], _ => rfl)
theorem sc__law_slots : FnScope ["_law_memory", "_law_active", "_law_slots_here", "_law_call", "_law_epoch", "_law_slot"] ["_law_memory", "_law_active", "_law_slots_here"] (defScope (top 28)) := ⟨rfl, rfl, rfl, by decide +kernel, rfl, by decide +kernel, by decide +kernel⟩
theorem bo__law_slots (T : Txt fa fn fx ts w K mg) (f : Addr) : Body0 P w K mg base ["_law_memory", "_law_active", "_law_slots_here", "_law_call", "_law_epoch", "_law_slot"] "_law_slots" (defBody (top 28)) (defScope (top 28)) f 3 b__law_slots := fun cdv A outer s H E hr => (rs_cons (rs_forA PassesOwn.never rfl (rv 1) (rgn 3 sc__law_slots.nd) (rs_cons (rst 4 sc__law_slots.nd (re_meth (rv 0) (g_Memory_peek T) runDef_ar (hr.mono (by decide)) passE (ra_cons re_int ra_nil)))
  (rs_cons (rst 5 sc__law_slots.nd (re_meth (rv 0) (g_Memory_peek T) runDef_ar (hr.mono (by decide)) passE (ra_cons (re_add re_int (re_ixA hr.units (rv 3) re_int)) ra_nil)))
  (rs_one (rs_if (rt_bool (rw_or (rt_neA hr.units (rv 5) (re_ixA hr.units (rv 2) (re_ixA hr.units (rv 3) re_int))) (rw_or (rt_lt (rv 4) (rv 5)) (rw_or1 (rt_gt (rv 4) (re_add (rv 5) re_int)))))) (rs_one (rs_ret re_bl)) rs_nil)))))
  (rs_one (rs_ret re_bl)))
theorem g__law_slots (T : Txt fa fn fx ts w K mg) : GF P w K mg base CX0 4 "_law_slots" 3 m__law_slots [] :=
  gf0 (mm := m__law_slots) (by exact Wk.refl) (params := defArgs (top 28)) (body := defBody (top 28)) (scope := defScope (top 28)) (x := "_law_slots") T 35 79 sc__law_slots (b := b__law_slots) (bo__law_slots T) (fun _ _ _ _ _ _ us hl => match us, hl with | [_, _, _], _ => rfl)
theorem sc_Store_free_cells : FnScope ["self"] ["self"] (defScope (inClass (top 6) 4)) := ⟨rfl, rfl, rfl, by decide +kernel, rfl, by decide +kernel, by decide +kernel⟩
theorem bo_Store_free_cells (T : Txt fa fn fx ts w K mg) (f : Addr) : Body0 P w K mg base ["self"] "Store.free_cells" (defBody (inClass (top 6) 4)) (defScope (inClass (top 6) 4)) f 0 b_Store_free_cells := fun cdv A outer s H E hr => (rs_one (rs_ret (re_callTy (CallR.or1 call_list_of (call_listD rfl)) (s_list.or s_listD) (by rfl) (T.free 0) (by decide +kernel) (ra_cons (re_fld (rv 0) (plOk_by (by decide +kernel))) ra_nil))))
theorem g_Store_free_cells (T : Txt fa fn fx ts w K mg) : MF P w K mg base CX0 1 5 "free_cells" 1 m_Store_free_cells [] :=
  mf0 (mm := m_Store_free_cells) (by exact Wk.trunc) (params := defArgs (inClass (top 6) 4)) (body := defBody (inClass (top 6) 4)) (scope := defScope (inClass (top 6) 4)) (m := "free_cells") (q := "Store.free_cells") T 36 80 1 5 sc_Store_free_cells (b := b_Store_free_cells) (bo_Store_free_cells T) (fun _ _ _ _ _ _ us hl => match us, hl with | [_], _ => rfl)
theorem sc__law_whole : FnScope ["_law_store_here", "_law_first", "_law_cells", "_law_row"] ["_law_store_here", "_law_first"] (defScope (top 27)) := ⟨rfl, rfl, rfl, by decide +kernel, rfl, by decide +kernel, by decide +kernel⟩
theorem bo__law_whole (T : Txt fa fn fx ts w K mg) (f : Addr) : Body0 P w K mg base ["_law_store_here", "_law_first", "_law_cells", "_law_row"] "_law_whole" (defBody (top 27)) (defScope (top 27)) f 1 b__law_whole := fun cdv A outer s H E hr => (rs_cons (rst 2 sc__law_whole.nd (re_callTy (CallR.or1 call_list_of (call_listD rfl)) (s_list.or s_listD) (by rfl) (T.free 0) (by decide +kernel) (ra_cons (re_meth0 (rv 0) (g_Store_free_cells T) runDefT_ar (hr.mono (by decide)) passE) ra_nil)))
  (rs_cons (rs_forA PassesOwn.never rfl (re_meth0 (rv 0) (g_Store_waiting T) runDefT_ar (hr.mono (by decide)) passE) (rgn 3 sc__law_whole.nd) (rs_one (rst 2 sc__law_whole.nd (re_add (rv 2) (re_ixA hr.units (rv 3) re_int)))))
  (rs_one (rs_ret (re_eqA hr.units (re_callB (CallR.or1 (CallR.or1 cr_sortedI (call_sortedDI rfl)) (cr_sortT hr.units)) ((s_sortL.or s_sortD).or s_sortT) (by rfl) (T.free 27) (by decide +kernel) (ra_cons (rv 2) ra_nil)) (rv 1))))))
theorem g__law_whole (T : Txt fa fn fx ts w K mg) : GF P w K mg base CX0 2 "_law_whole" 2 m__law_whole [] :=
  gf0 (mm := m__law_whole) (by exact Wk.trunc) (params := defArgs (top 27)) (body := defBody (top 27)) (scope := defScope (top 27)) (x := "_law_whole") T 37 81 sc__law_whole (b := b__law_whole) (bo__law_whole T) (fun _ _ _ _ _ _ us hl => match us, hl with | [_, _], _ => rfl)
theorem sc__law_held : FnScope ["_law_store_here", "_law_rows", "_law_active", "_law_free", "_law_row", "_law_call"] ["_law_store_here", "_law_rows", "_law_active"] (defScope (top 25)) := ⟨rfl, rfl, rfl, by decide +kernel, rfl, by decide +kernel, by decide +kernel⟩
theorem bo__law_held (T : Txt fa fn fx ts w K mg) (f : Addr) : Body0 P w K mg base ["_law_store_here", "_law_rows", "_law_active", "_law_free", "_law_row", "_law_call"] "_law_held" (defBody (top 25)) (defScope (top 25)) f 1 b__law_held := fun cdv A outer s H E hr => (rs_cons (rst 3 sc__law_held.nd (re_meth0 (rv 0) (g_Store_free_cells T) runDefT_ar (hr.mono (by decide)) passE))
  (rs_cons (rs_forA PassesOwn.never rfl (rv 1) (rgn 4 sc__law_held.nd) (rs_one (rs_if (rt_inA hr.units (re_ixA hr.units (rv 4) re_int) (rv 3)) (rs_one (rs_forA PassesOwn.never rfl (rv 2) (rgn 5 sc__law_held.nd) (rs_one (rs_if (rt_bool (rw_or (rt_inA hr.units (rv 5) (re_ixA hr.units (rv 4) re_int)) (rw_or1 (rt_inA hr.units (rv 5) (re_ixA hr.units (rv 4) re_int))))) (rs_one (rs_ret re_bl)) rs_nil)))) rs_nil)))
  (rs_one (rs_ret re_bl))))
theorem g__law_held (T : Txt fa fn fx ts w K mg) : GF P w K mg base CX0 2 "_law_held" 3 m__law_held [] :=
  gf0 (mm := m__law_held) (by exact Wk.trunc) (params := defArgs (top 25)) (body := defBody (top 25)) (scope := defScope (top 25)) (x := "_law_held") T 38 82 sc__law_held (b := b__law_held) (bo__law_held T) (fun _ _ _ _ _ _ us hl => match us, hl with | [_, _, _], _ => rfl)
theorem sc__law_known : FnScope ["_law_rows", "_law_active", "_law_row", "_law_near", "_law_call"] ["_law_rows", "_law_active"] (defScope (top 24)) := ⟨rfl, rfl, rfl, by decide +kernel, rfl, by decide +kernel, by decide +kernel⟩
theorem bo__law_known (T : Txt fa fn fx ts w K mg) (f : Addr) : Body0 P w K mg base ["_law_rows", "_law_active", "_law_row", "_law_near", "_law_call"] "_law_known" (defBody (top 24)) (defScope (top 24)) f 0 b__law_known := fun cdv A outer s H E hr => (rs_one (rs_forA PassesOwn.never rfl (rv 0) (rgn 2 sc__law_known.nd) (rs_cons (rs_setLcFA (i := 3) (by rfl) sc__law_known.nd (by rfl) (by rfl) (sw_true (by rfl) (by rfl) (by rfl) (by decide +kernel)) (re_ixA hr.units (rv 2) re_int) (blkOk_by (own := [("_law_call", 4)]) (by show blkC ["_law_rows", "_law_active", "_law_row", "_law_near", "_law_call"] (defScope (top 24)) _ _ = true; decide +kernel)) (by decide) (fun _ _ _ _ _ => (rgn 4 sc__law_known.nd)) (fun _ _ _ _ _ => (rts_one (rt_inA hr.units (rv 4) (rv 1)))) (fun _ _ _ _ _ => (rv 4)))
  (rs_one (rs_if (rt_gt (re_callB call_len s_len (by rfl) (T.free 8) (by decide +kernel) (ra_cons (rv 3) ra_nil)) re_int) (rs_one (rs_forA PassesOwn.never rfl (rv 1) (rgn 4 sc__law_known.nd) (rs_one (rs_if (rt_notinA hr.units (rv 4) (re_ixA hr.units (rv 2) re_int)) (rs_one (rs_ex (re_app (re_ixA hr.units (rv 2) re_int) (rv 4)))) rs_nil)))) rs_nil)))))
theorem g__law_known (T : Txt fa fn fx ts w K mg) : GF P w K mg base CX0 1 "_law_known" 2 m__law_known [] :=
  gf0 (mm := m__law_known) (by exact Wk.refl) (params := defArgs (top 24)) (body := defBody (top 24)) (scope := defScope (top 24)) (x := "_law_known") T 39 83 sc__law_known (b := b__law_known) (bo__law_known T) (fun _ _ _ _ _ _ us hl => match us, hl with | [_, _], _ => rfl)
theorem sc_Store_take_out : FnScope ["self", "cells"] ["self", "cells"] (defScope (inClass (top 6) 3)) := ⟨rfl, rfl, rfl, by decide +kernel, rfl, by decide +kernel, by decide +kernel⟩
theorem bo_Store_take_out (T : Txt fa fn fx ts w K mg) (f : Addr) : Body0 P w K mg base ["self", "cells"] "Store.take_out" (defBody (inClass (top 6) 3)) (defScope (inClass (top 6) 3)) f 0 b_Store_take_out := fun cdv A outer s H E hr => (rs_one (rs_fld (by decide +kernel) (rv 0) (re_add (re_fld (rv 0) (plOk_by (by decide +kernel))) (re_callTy (CallR.or1 call_list_of (call_listD rfl)) (s_list.or s_listD) (by rfl) (T.free 0) (by decide +kernel) (ra_cons (rv 1) ra_nil)))))
theorem g_Store_take_out (T : Txt fa fn fx ts w K mg) : MF P w K mg base CX0 1 5 "take_out" 2 m_Store_take_out [] :=
  mf0 (mm := m_Store_take_out) (by exact Wk.refl) (params := defArgs (inClass (top 6) 3)) (body := defBody (inClass (top 6) 3)) (scope := defScope (inClass (top 6) 3)) (m := "take_out") (q := "Store.take_out") T 40 84 1 5 sc_Store_take_out (b := b_Store_take_out) (bo_Store_take_out T) (fun _ _ _ _ _ _ us hl => match us, hl with | [_, _], _ => rfl)
theorem sc_Store_take : FnScope ["self", "many", "taken"] ["self", "many"] (defScope (inClass (top 6) 1)) := ⟨rfl, rfl, rfl, by decide +kernel, rfl, by decide +kernel, by decide +kernel⟩
theorem bo_Store_take (T : Txt fa fn fx ts w K mg) (f : Addr) : Body0 P w K mg base ["self", "many", "taken"] "Store.take" (defBody (inClass (top 6) 1)) (defScope (inClass (top 6) 1)) f 0 b_Store_take := fun cdv A outer s H E hr => (rs_cons (rs_if (rt_gt (rv 1) (re_callB call_len s_len (by rfl) (T.free 8) (by decide +kernel) (ra_cons (re_fld (rv 0) (plOk_by (by decide +kernel))) ra_nil))) (rs_one (rs_ret re_non)) rs_nil)
  (rs_cons (rst 2 sc_Store_take.nd (re_sl (re_fld (rv 0) (plOk_by (by decide +kernel))) ro_none (ro_some (rv 1))))
  (rs_cons (rs_fld (by decide +kernel) (rv 0) (re_sl (re_fld (rv 0) (plOk_by (by decide +kernel))) (ro_some (rv 1)) ro_none))
  (rs_one (rs_ret (rv 2))))))
theorem g_Store_take (T : Txt fa fn fx ts w K mg) : MF P w K mg base CX0 1 5 "take" 2 m_Store_take [] :=
  mf0 (mm := m_Store_take) (by exact Wk.refl) (params := defArgs (inClass (top 6) 1)) (body := defBody (inClass (top 6) 1)) (scope := defScope (inClass (top 6) 1)) (m := "take") (q := "Store.take") T 41 85 1 5 sc_Store_take (b := b_Store_take) (bo_Store_take T) (fun _ _ _ _ _ _ us hl => match us, hl with | [_, _], _ => rfl)
theorem sc_Layout_word : FnScope ["self", "index"] ["self", "index"] (defScope (inClass (top 19) 4)) := ⟨rfl, rfl, rfl, by decide +kernel, rfl, by decide +kernel, by decide +kernel⟩
theorem bo_Layout_word (T : Txt fa fn fx ts w K mg) (f : Addr) : Body0 P w K mg base ["self", "index"] "Layout.word" (defBody (inClass (top 19) 4)) (defScope (inClass (top 19) 4)) f 0 b_Layout_word := fun cdv A outer s H E hr => (rs_one (rs_ret (re_add (re_add re_int (re_mul re_int (re_fld (rv 0) (plOk_by (by decide +kernel))))) (rv 1))))
theorem g_Layout_word (T : Txt fa fn fx ts w K mg) : MF P w K mg base CX0 1 0 "word" 2 m_Layout_word [] :=
  mf0 (mm := m_Layout_word) (by exact Wk.trunc) (params := defArgs (inClass (top 19) 4)) (body := defBody (inClass (top 19) 4)) (scope := defScope (inClass (top 19) 4)) (m := "word") (q := "Layout.word") T 42 86 36 0 sc_Layout_word (b := b_Layout_word) (bo_Layout_word T) (fun _ _ _ _ _ _ us hl => match us, hl with | [_, _], _ => rfl)
theorem sc_Memory_log : FnScope ["self"] ["self"] (defScope (inClass (top 20) 15)) := ⟨rfl, rfl, rfl, by decide +kernel, rfl, by decide +kernel, by decide +kernel⟩
theorem bo_Memory_log (T : Txt fa fn fx ts w K mg) (f : Addr) : Body0 P w K mg base ["self"] "Memory.log" (defBody (inClass (top 20) 15)) (defScope (inClass (top 20) 15)) f 0 b_Memory_log := fun cdv A outer s H E hr => (rs_one (rs_ret (re_callTy (CallR.or1 call_list_of (call_listD rfl)) (s_list.or s_listD) (by rfl) (T.free 0) (by decide +kernel) (ra_cons (re_fld (rv 0) (plOk_by (by decide +kernel))) ra_nil))))
theorem g_Memory_log (T : Txt fa fn fx ts w K mg) : MF P w K mg base CX0 1 1 "log" 1 m_Memory_log [] :=
  mf0 (mm := m_Memory_log) (by exact Wk.trunc) (params := defArgs (inClass (top 20) 15)) (body := defBody (inClass (top 20) 15)) (scope := defScope (inClass (top 20) 15)) (m := "log") (q := "Memory.log") T 43 87 48 1 sc_Memory_log (b := b_Memory_log) (bo_Memory_log T) (fun _ _ _ _ _ _ us hl => match us, hl with | [_], _ => rfl)
theorem sc__law_at : FnScope ["_law_tape_here", "_law_k"] ["_law_tape_here", "_law_k"] (defScope (top 23)) := ⟨rfl, rfl, rfl, by decide +kernel, rfl, by decide +kernel, by decide +kernel⟩
theorem bo__law_at (T : Txt fa fn fx ts w K mg) (f : Addr) : Body0 P w K mg base ["_law_tape_here", "_law_k"] "_law_at" (defBody (top 23)) (defScope (top 23)) f 0 b__law_at := fun cdv A outer s H E hr => (rs_cons (rs_if (rt_lt (rv 1) (re_callB call_len s_len (by rfl) (T.free 8) (by decide +kernel) (ra_cons (rv 0) ra_nil))) (rs_one (rs_ret (re_ixA hr.units (rv 0) (rv 1)))) rs_nil)
  (rs_one (rs_ret re_int)))
theorem g__law_at (T : Txt fa fn fx ts w K mg) : GF P w K mg base CX0 1 "_law_at" 2 m__law_at [] :=
  gf0 (mm := m__law_at) (by exact Wk.trunc) (params := defArgs (top 23)) (body := defBody (top 23)) (scope := defScope (top 23)) (x := "_law_at") T 44 88 sc__law_at (b := b__law_at) (bo__law_at T) (fun _ _ _ _ _ _ us hl => match us, hl with | [_, _], _ => rfl)
theorem sc_Store_init : FnScope ["self", "layout", "thread", "cells"] ["self", "layout", "thread", "cells"] (defScope (inClass (top 6) 0)) := ⟨rfl, rfl, rfl, by decide +kernel, rfl, by decide +kernel, by decide +kernel⟩
theorem bo_Store_init (T : Txt fa fn fx ts w K mg) (f : Addr) : Body0 P w K mg base ["self", "layout", "thread", "cells"] "Store.__init__" (defBody (inClass (top 6) 0)) (defScope (inClass (top 6) 0)) f 0 b_Store_init := fun cdv A outer s H E hr => (rs_cons (rs_fld (by decide +kernel) (rv 0) (rv 1))
  (rs_cons (rs_fld (by decide +kernel) (rv 0) (rv 2))
  (rs_cons (rs_fld (by decide +kernel) (rv 0) (re_callB (CallR.or1 (CallR.or1 cr_sortedI (call_sortedDI rfl)) (cr_sortT hr.units)) ((s_sortL.or s_sortD).or s_sortT) (by rfl) (T.free 27) (by decide +kernel) (ra_cons (rv 3) ra_nil)))
  (rs_cons (rs_fld (by decide +kernel) (rv 0) (re_lst ra_nil))
  (rs_one (rs_fld (by decide +kernel) (rv 0) (re_lst ra_nil)))))))
theorem g_Store_init (T : Txt fa fn fx ts w K mg) : CF P w K mg base CX0 1 5 4 m_Store_init [] :=
  cf0 (mm := m_Store_init) (by exact Wk.refl) (params := defArgs (inClass (top 6) 0)) (body := defBody (inClass (top 6) 0)) (scope := defScope (inClass (top 6) 0)) (q := "Store.__init__") T 45 89 90 5 (T.clsOk 5 1 2) sc_Store_init (b := b_Store_init) (bo_Store_init T) (fun _ _ _ _ _ _ us hl => match us, hl with | [_, _, _, _], _ => rfl)
theorem sc_divided : FnScope ["layout", "cells", "thread", "cell"] ["layout", "cells", "thread"] (defScope (top 5)) := ⟨rfl, rfl, rfl, by decide +kernel, rfl, by decide +kernel, by decide +kernel⟩
theorem bo_divided (T : Txt fa fn fx ts w K mg) (f : Addr) : Body0 P w K mg base ["layout", "cells", "thread", "cell"] "divided" (defBody (top 5)) (defScope (top 5)) f 1 b_divided := fun cdv A outer s H E hr => (rs_one (rs_ret (re_callB (CallR.or1 (CallR.or1 cr_sortedI (call_sortedDI rfl)) (cr_sortT hr.units)) ((s_sortL.or s_sortD).or s_sortT) (by rfl) (T.free 27) (by decide +kernel) (ra_cons (re_lcFA (by rfl) sc_divided.nd (rv 1) (blkOk_by (own := [("cell", 3)]) (by show blkC ["layout", "cells", "thread", "cell"] (defScope (top 5)) _ _ = true; decide +kernel)) (by decide) (fun _ _ _ _ _ => (rgn 3 sc_divided.nd)) (fun _ _ _ _ _ => (rts_one (rt_eqA hr.units (re_mod (re_sub (rv 3) (re_meth (rv 0) (g_Layout_record T) runDefT_ar (hr.mono (by decide)) passE (ra_cons re_int ra_nil))) (re_fld (rv 0) (plOk_by (by decide +kernel)))) (rv 2)))) (fun _ _ _ _ _ => (rv 3))) ra_nil))))
theorem g_divided (T : Txt fa fn fx ts w K mg) : GF P w K mg base CX0 2 "divided" 3 m_divided [] :=
  gf0 (mm := m_divided) (by exact Wk.trunc) (params := defArgs (top 5)) (body := defBody (top 5)) (scope := defScope (top 5)) (x := "divided") T 46 91 sc_divided (b := b_divided) (bo_divided T) (fun _ _ _ _ _ _ us hl => match us, hl with | [_, _, _], _ => rfl)
theorem sc__law_store : FnScope ["_law_layout", "_law_thread", "_law_own", "_law_k"] ["_law_layout", "_law_thread"] (defScope (top 26)) := ⟨rfl, rfl, rfl, by decide +kernel, rfl, by decide +kernel, by decide +kernel⟩
theorem bo__law_store (T : Txt fa fn fx ts w K mg) (f : Addr) : Body0 P w K mg base ["_law_layout", "_law_thread", "_law_own", "_law_k"] "_law_store" (defBody (top 26)) (defScope (top 26)) f 2 b__law_store := fun cdv A outer s H E hr => (rs_cons (rs_setLcFR2 (i := 2) (by rfl) sc__law_store.nd (by rfl) (by rfl) (sw_true (by rfl) (by rfl) (by rfl) (by decide +kernel)) (by rfl) (by exact T.free 70) (ra_cons re_int (ra_cons (re_fld (rv 0) (plOk_by (by decide +kernel))) ra_nil)) (blkOk_by (own := [("_law_k", 3)]) (by show blkC ["_law_layout", "_law_thread", "_law_own", "_law_k"] (defScope (top 26)) _ _ = true; decide +kernel)) (by decide) (fun _ _ _ _ _ => (rgn 3 sc__law_store.nd)) (fun _ _ _ _ _ => rts_nil) (fun _ _ _ _ _ => (re_meth (rv 0) (g_Layout_record T) runDefT_ar (hr.mono (by decide)) passE (ra_cons (rv 3) ra_nil))))
  (rs_one (rs_ret (re_make (g_Store_init T) rfl runDef_ar (hr.mono (by decide)) (by rfl) passE (ra_cons (rv 0) (ra_cons (rv 1) (ra_cons (re_call (g_divided T) runDefT_ar (hr.mono (by decide)) (by rfl) passE (ra_cons (rv 0) (ra_cons (rv 2) (ra_cons (rv 1) ra_nil)))) ra_nil)))))))
theorem g__law_store (T : Txt fa fn fx ts w K mg) : GF P w K mg base CX0 3 "_law_store" 2 m__law_store [] :=
  gf0 (mm := m__law_store) (by exact Wk.refl) (params := defArgs (top 26)) (body := defBody (top 26)) (scope := defScope (top 26)) (x := "_law_store") T 47 92 sc__law_store (b := b__law_store) (bo__law_store T) (fun _ _ _ _ _ _ us hl => match us, hl with | [_, _], _ => rfl)
theorem sc_Memory_no_notes : FnScope ["self", "_"] ["self"] (defScope (inClass (top 20) 1)) := ⟨rfl, rfl, rfl, by decide +kernel, rfl, by decide +kernel, by decide +kernel⟩
theorem bo_Memory_no_notes (T : Txt fa fn fx ts w K mg) (f : Addr) : Body0 P w K mg base ["self", "_"] "Memory.no_notes" (defBody (inClass (top 20) 1)) (defScope (inClass (top 20) 1)) f 0 b_Memory_no_notes := fun cdv A outer s H E hr => (rs_one (rs_ret (re_lcFR1 (by rfl) sc_Memory_no_notes.nd (by rfl) (by exact T.free 70) (ra_cons (re_fld (re_fld (rv 0) (plOk_by (by decide +kernel))) (plOk_by (by decide +kernel))) ra_nil) (blkOk_by (own := [("_", 1)]) (by show blkC ["self", "_"] (defScope (inClass (top 20) 1)) _ _ = true; decide +kernel)) (by decide) (fun _ _ _ _ _ => (rgn 1 sc_Memory_no_notes.nd)) (fun _ _ _ _ _ => rts_nil) (fun _ _ _ _ _ => re_dic0))))
theorem g_Memory_no_notes (T : Txt fa fn fx ts w K mg) : MF P w K mg base CX0 1 1 "no_notes" 1 m_Memory_no_notes [] :=
  mf0 (mm := m_Memory_no_notes) (by exact Wk.refl) (params := defArgs (inClass (top 20) 1)) (body := defBody (inClass (top 20) 1)) (scope := defScope (inClass (top 20) 1)) (m := "no_notes") (q := "Memory.no_notes") T 48 93 48 1 sc_Memory_no_notes (b := b_Memory_no_notes) (bo_Memory_no_notes T) (fun _ _ _ _ _ _ us hl => match us, hl with | [_], _ => rfl)
theorem sc_Memory_init : FnScope ["self", "layout", "index", "_"] ["self", "layout"] (defScope (inClass (top 20) 0)) := ⟨rfl, rfl, rfl, by decide +kernel, rfl, by decide +kernel, by decide +kernel⟩
theorem bo_Memory_init (T : Txt fa fn fx ts w K mg) (f : Addr) : Body0 P w K mg base ["self", "layout", "index", "_"] "Memory.__init__" (defBody (inClass (top 20) 0)) (defScope (inClass (top 20) 0)) f 2 b_Memory_init := fun cdv A outer s H E hr => (rs_cons (rs_fld (by decide +kernel) (rv 0) (rv 1))
  (rs_cons (rs_fld (by decide +kernel) (rv 0) re_int)
  (rs_cons (rs_fld (by decide +kernel) (rv 0) (re_lst ra_nil))
  (rs_cons (rs_fld (by decide +kernel) (rv 0) (re_lcFR1 (by rfl) sc_Memory_init.nd (by rfl) (by exact T.free 70) (ra_cons (re_meth0 (rv 1) (g_Layout_cells T) runDefT_ar (hr.mono (by decide)) passE) ra_nil) (blkOk_by (own := [("_", 3)]) (by show blkC ["self", "layout", "index", "_"] (defScope (inClass (top 20) 0)) _ _ = true; decide +kernel)) (by decide) (fun _ _ _ _ _ => (rgn 3 sc_Memory_init.nd)) (fun _ _ _ _ _ => rts_nil) (fun _ _ _ _ _ => (re_lst (ra_cons re_non ra_nil)))))
  (rs_cons (rs_put hr.units (re_fld (rv 0) (plOk_by (by decide +kernel))) (re_meth0 (rv 1) (g_Layout_epoch T) runDefT_ar (hr.mono (by decide)) passE) (re_lst (ra_cons re_int ra_nil)))
  (rs_cons (rs_forR1 PassesOwn.never rfl rfl (T.free 70) (ra_cons (re_fld (rv 1) (plOk_by (by decide +kernel))) ra_nil) (rgn 2 sc_Memory_init.nd) (rs_cons (rs_put hr.units (re_fld (rv 0) (plOk_by (by decide +kernel))) (re_meth (rv 1) (g_Layout_word T) runDefT_ar (hr.mono (by decide)) passE (ra_cons (rv 2) ra_nil)) (re_lst (ra_cons (re_meth (rv 1) (g_Layout_record T) runDefT_ar (hr.mono (by decide)) passE (ra_cons (rv 2) ra_nil)) ra_nil)))
  (rs_one (rs_put hr.units (re_fld (rv 0) (plOk_by (by decide +kernel))) (re_meth (rv 1) (g_Layout_record T) runDefT_ar (hr.mono (by decide)) passE (ra_cons (rv 2) ra_nil)) (re_lst (ra_cons (re_tup (ra_cons (re_str (k := 1)) (ra_cons (re_tup ra_nil) ra_nil))) ra_nil))))))
  (rs_one (rs_fld (by decide +kernel) (rv 0) (re_meth0 (rv 0) (g_Memory_no_notes T) runDef_ar (hr.mono (by decide)) passE)))))))))
theorem g_Memory_init (T : Txt fa fn fx ts w K mg) : CF P w K mg base CX0 3 1 2 m_Memory_init [] :=
  cf0 (mm := m_Memory_init) (by exact Wk.refl) (params := defArgs (inClass (top 20) 0)) (body := defBody (inClass (top 20) 0)) (scope := defScope (inClass (top 20) 0)) (q := "Memory.__init__") T 49 94 95 1 (T.clsOk 1 48 49) sc_Memory_init (b := b_Memory_init) (bo_Memory_init T) (fun _ _ _ _ _ _ us hl => match us, hl with | [_, _], _ => rfl)
theorem sc_Layout_init : FnScope ["self", "threads", "words", "records"] ["self", "threads", "words", "records"] (defScope (inClass (top 19) 0)) := ⟨rfl, rfl, rfl, by decide +kernel, rfl, by decide +kernel, by decide +kernel⟩
theorem bo_Layout_init (T : Txt fa fn fx ts w K mg) (f : Addr) : Body0 P w K mg base ["self", "threads", "words", "records"] "Layout.__init__" (defBody (inClass (top 19) 0)) (defScope (inClass (top 19) 0)) f 1 b_Layout_init := fun cdv A outer s H E hr => (rs_cons (rs_if (rt_bool (rw_or (rt_not (rt_truth (re_call (g_is_within T) runDefT_ar (hr.mono (by decide)) (by rfl) passE (ra_cons (rv 1) (ra_cons re_int (ra_cons (rgi T 99) ra_nil)))))) (rw_or1 (rt_not (rt_truth (re_call (g_is_within T) runDefT_ar (hr.mono (by decide)) (by rfl) passE (ra_cons (rv 2) (ra_cons re_int (ra_cons (rgi T 98) ra_nil))))))))) (rs_one rs_never) rs_nil)
  (rs_cons (rs_if (rt_not (rt_truth (re_call (g_is_within T) runDefT_ar (hr.mono (by decide)) (by rfl) passE (ra_cons (rv 3) (ra_cons (rgi T 97) (ra_cons (rgi T 96) ra_nil)))))) (rs_one rs_never) rs_nil)
  (rs_cons (rs_fld (by decide +kernel) (rv 0) (rv 1))
  (rs_cons (rs_fld (by decide +kernel) (rv 0) (rv 2))
  (rs_one (rs_fld (by decide +kernel) (rv 0) (rv 3)))))))
theorem g_Layout_init (T : Txt fa fn fx ts w K mg) : CF P w K mg base CX0 2 0 4 m_Layout_init [] :=
  cf0 (mm := m_Layout_init) (by exact Wk.refl) (params := defArgs (inClass (top 19) 0)) (body := defBody (inClass (top 19) 0)) (scope := defScope (inClass (top 19) 0)) (q := "Layout.__init__") T 50 100 101 0 (T.clsOk 0 36 37) sc_Layout_init (b := b_Layout_init) (bo_Layout_init T) (fun _ _ _ _ _ _ us hl => match us, hl with | [_, _, _, _], _ => rfl)
theorem sc__law_tape : FnScope ["_law_script", "_law_tape_here", "_law_k", "_law_value", "_law_step"] ["_law_script"] (defScope (top 22)) := ⟨rfl, rfl, rfl, by decide +kernel, rfl, by decide +kernel, by decide +kernel⟩
theorem bo__law_tape (T : Txt fa fn fx ts w K mg) (f : Addr) : Body0 P w K mg base ["_law_script", "_law_tape_here", "_law_k", "_law_value", "_law_step"] "_law_tape" (defBody (top 22)) (defScope (top 22)) f 0 b__law_tape := fun cdv A outer s H E hr => (rs_cons (rst 1 sc__law_tape.nd (re_lst ra_nil))
  (rs_cons (rs_forR1 PassesOwn.never rfl rfl (T.free 70) (ra_cons (re_callB call_len s_len (by rfl) (T.free 8) (by decide +kernel) (ra_cons (rv 0) ra_nil)) ra_nil) (rgn 2 sc__law_tape.nd) (rs_cons (rst 3 sc__law_tape.nd (re_callB call_abs s_abs (by rfl) (T.free 102) (by decide +kernel) (ra_cons (re_callTy call_int1 s_int (by rfl) (T.free 32) (by decide +kernel) (ra_cons (re_ixA hr.units (rv 0) (rv 2)) ra_nil)) ra_nil)))
  (rs_one (rs_if (rt_ge (rv 3) (re_pow re_int re_int)) (rs_one (rs_forR1 PassesOwn.never rfl rfl (T.free 70) (ra_cons re_int ra_nil) (rgn 4 sc__law_tape.nd) (rs_one (rs_if (rt_gt (rv 3) re_int) (rs_cons (rs_ex (re_app (rv 1) (re_mod (rv 3) re_int)))
  (rs_one (rst 3 sc__law_tape.nd (re_div (rv 3) re_int)))) rs_nil)))) (rs_one (rs_forR1 PassesOwn.never rfl rfl (T.free 70) (ra_cons re_int ra_nil) (rgn 4 sc__law_tape.nd) (rs_cons (rst 3 sc__law_tape.nd (re_mod (re_add (re_add (re_mul (rv 3) re_int) (re_mul re_int (re_add (rv 2) re_int))) (re_mul re_int (rv 4))) re_int))
  (rs_cons (rst 3 sc__law_tape.nd (re_mod (re_mul (rv 3) re_int) re_int))
  (rs_one (rs_ex (re_app (rv 1) (re_mod (re_div (rv 3) re_int) re_int))))))))))))
  (rs_one (rs_ret (rv 1)))))
theorem g__law_tape (T : Txt fa fn fx ts w K mg) : GF P w K mg base CX0 1 "_law_tape" 1 m__law_tape [] :=
  gf0 (mm := m__law_tape) (by exact Wk.trunc) (params := defArgs (top 22)) (body := defBody (top 22)) (scope := defScope (top 22)) (x := "_law_tape") T 51 103 sc__law_tape (b := b__law_tape) (bo__law_tape T) (fun _ _ _ _ _ _ us hl => match us, hl with | [_], _ => rfl)
theorem sc_law : FnScope ["_law_script", "_law_tape_here", "_law_threads", "_law_memory", "_law_stores", "_law_first", "_law_stacks", "_law_phases", "_law_work", "_law_slots_here", "_law_active", "_law_serial", "_law_rows", "_law_k", "_law_thread", "_law_number", "_law_store_here", "_law_other", "_law_others", "_law_slot", "_law_moved", "_law_taken", "_law_request", "_law_row", "_law_call", "_law_cell"] ["_law_script"] (defScope (top 30)) := ⟨rfl, rfl, rfl, by decide +kernel, rfl, by decide +kernel, by decide +kernel⟩
theorem bo_law (T : Txt fa fn fx ts w K mg) (f : Addr) : Body0 P w K mg base ["_law_script", "_law_tape_here", "_law_threads", "_law_memory", "_law_stores", "_law_first", "_law_stacks", "_law_phases", "_law_work", "_law_slots_here", "_law_active", "_law_serial", "_law_rows", "_law_k", "_law_thread", "_law_number", "_law_store_here", "_law_other", "_law_others", "_law_slot", "_law_moved", "_law_taken", "_law_request", "_law_row", "_law_call", "_law_cell"] "law" (defBody (top 30)) (defScope (top 30)) f 9 b_law := fun cdv A outer s H E hr => (rs_cons (rst 1 sc_law.nd (re_call (g__law_tape T) runDefT_ar (hr.mono (by decide)) (by rfl) passE (ra_cons (rv 0) ra_nil)))
  (rs_cons (rst 2 sc_law.nd (re_add re_int (re_mod (re_call (g__law_at T) runDefT_ar (hr.mono (by decide)) (by rfl) passE (ra_cons (rv 1) (ra_cons re_int ra_nil))) re_int)))
  (rs_cons (rst 3 sc_law.nd (re_make (g_Memory_init T) rfl runDef_ar (hr.mono (by decide)) (by rfl) passE (ra_cons (re_make (g_Layout_init T) rfl runDef_ar (hr.mono (by decide)) (by rfl) passE (ra_cons (rv 2) (ra_cons re_int (ra_cons (re_add re_int (re_mul re_int (rv 2))) ra_nil)))) ra_nil)))
  (rs_cons (rs_setLcFR1 (i := 4) (by rfl) sc_law.nd (by rfl) (by rfl) (sw_true (by rfl) (by rfl) (by rfl) (by decide +kernel)) (by rfl) (by exact T.free 70) (ra_cons (rv 2) ra_nil) (blkOk_by (own := [("_law_thread", 14)]) (by show blkC ["_law_script", "_law_tape_here", "_law_threads", "_law_memory", "_law_stores", "_law_first", "_law_stacks", "_law_phases", "_law_work", "_law_slots_here", "_law_active", "_law_serial", "_law_rows", "_law_k", "_law_thread", "_law_number", "_law_store_here", "_law_other", "_law_others", "_law_slot", "_law_moved", "_law_taken", "_law_request", "_law_row", "_law_call", "_law_cell"] (defScope (top 30)) _ _ = true; decide +kernel)) (by decide) (fun _ _ _ _ _ => (rgn 14 sc_law.nd)) (fun _ _ _ _ _ => rts_nil) (fun _ _ _ _ _ => (re_call (g__law_store T) runDef_ar (hr.mono (by decide)) (by rfl) passE (ra_cons (re_fld (rv 3) (plOk_by (by decide +kernel))) (ra_cons (rv 14) ra_nil)))))
  (rs_cons (rs_setLcFA (i := 5) (by rfl) sc_law.nd (by rfl) (by rfl) (sw_true (by rfl) (by rfl) (by rfl) (by decide +kernel)) (rv 4) (blkOk_by (own := [("_law_store_here", 16)]) (by show blkC ["_law_script", "_law_tape_here", "_law_threads", "_law_memory", "_law_stores", "_law_first", "_law_stacks", "_law_phases", "_law_work", "_law_slots_here", "_law_active", "_law_serial", "_law_rows", "_law_k", "_law_thread", "_law_number", "_law_store_here", "_law_other", "_law_others", "_law_slot", "_law_moved", "_law_taken", "_law_request", "_law_row", "_law_call", "_law_cell"] (defScope (top 30)) _ _ = true; decide +kernel)) (by decide) (fun _ _ _ _ _ => (rgn 16 sc_law.nd)) (fun _ _ _ _ _ => rts_nil) (fun _ _ _ _ _ => (re_meth0 (rv 16) (g_Store_free_cells T) runDefT_ar (hr.mono (by decide)) passE)))
  (rs_cons (rst 6 sc_law.nd (re_mul (re_lst (ra_cons re_non ra_nil)) (rv 2)))
  (rs_cons (rst 7 sc_law.nd (re_mul (re_lst (ra_cons (re_str (k := 33)) ra_nil)) (rv 2)))
  (rs_cons (rst 8 sc_law.nd (re_mul (re_lst (ra_cons re_int ra_nil)) (rv 2)))
  (rs_cons (rst 9 sc_law.nd (re_mul (re_lst (ra_cons re_non ra_nil)) (rv 2)))
  (rs_cons (rst 10 sc_law.nd (re_lst ra_nil))
  (rs_cons (rst 11 sc_law.nd re_int)
  (rs_cons (rs_setLcFR1 (i := 12) (by rfl) sc_law.nd (by rfl) (by rfl) (sw_true (by rfl) (by rfl) (by rfl) (by decide +kernel)) (by rfl) (by exact T.free 70) (ra_cons (rv 2) ra_nil) (blkOk_by (own := [("_law_thread", 14)]) (by show blkC ["_law_script", "_law_tape_here", "_law_threads", "_law_memory", "_law_stores", "_law_first", "_law_stacks", "_law_phases", "_law_work", "_law_slots_here", "_law_active", "_law_serial", "_law_rows", "_law_k", "_law_thread", "_law_number", "_law_store_here", "_law_other", "_law_others", "_law_slot", "_law_moved", "_law_taken", "_law_request", "_law_row", "_law_call", "_law_cell"] (defScope (top 30)) _ _ = true; decide +kernel)) (by decide) (fun _ _ _ _ _ => (rgn 14 sc_law.nd)) (fun _ _ _ _ _ => rts_nil) (fun _ _ _ _ _ => (re_lst ra_nil)))
  (rs_cons (rs_forR1 PassesOwn.never rfl rfl (T.free 70) (ra_cons (re_callB (call_min2 rfl) s_min (by rfl) (T.free 56) (by decide +kernel) (ra_cons re_int (ra_cons (re_callB (call_max2 rfl) s_max (by rfl) (T.free 55) (by decide +kernel) (ra_cons re_int (ra_cons (re_sub (re_callB call_len s_len (by rfl) (T.free 8) (by decide +kernel) (ra_cons (rv 1) ra_nil)) re_int) ra_nil))) ra_nil))) ra_nil) (rgn 13 sc_law.nd) (rs_cons (rst 15 sc_law.nd (re_call (g__law_at T) runDefT_ar (hr.mono (by decide)) (by rfl) passE (ra_cons (rv 1) (ra_cons (re_add (rv 13) re_int) ra_nil))))
  (rs_cons (rst 14 sc_law.nd (re_mod (rv 15) (rv 2)))
  (rs_cons (rst 16 sc_law.nd (re_ixA hr.units (rv 4) (rv 14)))
  (rs_cons (rs_if (rt_eqA hr.units (re_ixA hr.units (rv 7) (rv 14)) (re_str (k := 34))) (rs_cons (rs_ex (re_meth (rv 3) (g_Memory_access T) runDef_ar (hr.mono (by decide)) passE (ra_cons (rv 14) (ra_cons (re_tup (ra_cons (re_str (k := 2)) (ra_cons (re_meth (re_fld (rv 3) (plOk_by (by decide +kernel))) (g_Layout_word T) runDefT_ar (hr.mono (by decide)) passE (ra_cons re_int ra_nil)) ra_nil))) ra_nil))))
  (rs_cons (rs_put hr.units (rv 8) (rv 14) (re_sub (re_ixA hr.units (rv 8) (rv 14)) re_int))
  (rs_cons (rs_if (rt_eqA hr.units (re_mod (re_div (rv 15) re_int) re_int) re_int) (rs_cons (rst 21 sc_law.nd (re_meth (rv 16) (g_Store_take T) runDef_ar (hr.mono (by decide)) passE (ra_cons (re_callB (call_min2 rfl) s_min (by rfl) (T.free 56) (by decide +kernel) (ra_cons (re_mod (re_div (rv 15) re_int) re_int) (ra_cons (re_callB call_len s_len (by rfl) (T.free 8) (by decide +kernel) (ra_cons (re_meth0 (rv 16) (g_Store_free_cells T) runDefT_ar (hr.mono (by decide)) passE) ra_nil)) ra_nil))) ra_nil)))
  (rs_cons (rs_ex (re_meth (rv 16) (g_Store_take_out T) runDef_ar (hr.mono (by decide)) passE (ra_cons (rv 21) ra_nil)))
  (rs_cons (rs_put hr.units (rv 12) (rv 14) (re_lcFA (by rfl) sc_law.nd (re_ixA hr.units (rv 12) (rv 14)) (blkOk_by (own := [("_law_row", 23)]) (by show blkC ["_law_script", "_law_tape_here", "_law_threads", "_law_memory", "_law_stores", "_law_first", "_law_stacks", "_law_phases", "_law_work", "_law_slots_here", "_law_active", "_law_serial", "_law_rows", "_law_k", "_law_thread", "_law_number", "_law_store_here", "_law_other", "_law_others", "_law_slot", "_law_moved", "_law_taken", "_law_request", "_law_row", "_law_call", "_law_cell"] (defScope (top 30)) _ _ = true; decide +kernel)) (by decide) (fun _ _ _ _ _ => (rgn 23 sc_law.nd)) (fun _ _ _ _ _ => (rts_one (rt_notinA hr.units (re_ixA hr.units (rv 23) re_int) (rv 21)))) (fun _ _ _ _ _ => (rv 23))))
  (rs_one (rs_put hr.units (rv 12) (rv 14) (re_add (re_ixA hr.units (rv 12) (rv 14)) (re_lcFA (by rfl) sc_law.nd (rv 21) (blkOk_by (own := [("_law_cell", 25)]) (by show blkC ["_law_script", "_law_tape_here", "_law_threads", "_law_memory", "_law_stores", "_law_first", "_law_stacks", "_law_phases", "_law_work", "_law_slots_here", "_law_active", "_law_serial", "_law_rows", "_law_k", "_law_thread", "_law_number", "_law_store_here", "_law_other", "_law_others", "_law_slot", "_law_moved", "_law_taken", "_law_request", "_law_row", "_law_call", "_law_cell"] (defScope (top 30)) _ _ = true; decide +kernel)) (by decide) (fun _ _ _ _ _ => (rgn 25 sc_law.nd)) (fun _ _ _ _ _ => rts_nil) (fun _ _ _ _ _ => (re_lst (ra_cons (rv 25) (ra_cons (re_callTy (CallR.or1 call_list_of (call_listD rfl)) (s_list.or s_listD) (by rfl) (T.free 0) (by decide +kernel) (ra_cons (rv 10) ra_nil)) (ra_cons (re_callTy (CallR.or1 call_list_of (call_listD rfl)) (s_list.or s_listD) (by rfl) (T.free 0) (by decide +kernel) (ra_cons (rv 10) ra_nil)) ra_nil)))))))))))) rs_nil)
  (rs_one (rs_if (rt_le (re_ixA hr.units (rv 8) (rv 14)) re_int) (rs_cons (rs_put hr.units (rv 7) (rv 14) (re_str (k := 35)))
  (rs_one (rs_put hr.units (rv 6) (rv 14) (re_make (g_Stack_init T) rfl runDef_ar (hr.mono (by decide)) (by rfl) passE (ra_cons (re_make (g_Leaving_init T) rfl runDef_ar (hr.mono (by decide)) (by rfl) passE (ra_cons (rv 16) ra_nil)) ra_nil))))) rs_nil))))) (rs_cons (rs_if (rt_eqA hr.units (re_ixA hr.units (rv 7) (rv 14)) (re_str (k := 33))) (rs_cons (rs_put hr.units (rv 7) (rv 14) (re_str (k := 36)))
  (rs_one (rs_put hr.units (rv 6) (rv 14) (re_make (g_Stack_init T) rfl runDef_ar (hr.mono (by decide)) (by rfl) passE (ra_cons (re_make (g_Entering_init T) rfl runDef_ar (hr.mono (by decide)) (by rfl) passE (ra_cons (rv 16) ra_nil)) ra_nil))))) rs_nil)
  (rs_cons (rst 19 sc_law.nd (re_meth (rv 3) (g_Memory_peek T) runDef_ar (hr.mono (by decide)) passE (ra_cons (re_add re_int (rv 14)) ra_nil)))
  (rs_cons (rst 20 sc_law.nd (re_meth (re_ixA hr.units (rv 6) (rv 14)) (g_Stack_step T) runDef_ar (hr.mono (by decide)) passE (ra_cons (rv 3) (ra_cons (rv 14) ra_nil))))
  (rs_cons (rs_if (rt_bool (rw_and (rt_eqA hr.units (re_ixA hr.units (rv 7) (rv 14)) (re_str (k := 35))) (rw_and (rt_isnot (rv 19) re_non) (rw_and1 (rt_is (re_meth (rv 3) (g_Memory_peek T) runDef_ar (hr.mono (by decide)) passE (ra_cons (re_add re_int (rv 14)) ra_nil)) re_non))))) (rs_one (rst 10 sc_law.nd (re_lcFA (by rfl) sc_law.nd (rv 10) (blkOk_by (own := [("_law_call", 24)]) (by show blkC ["_law_script", "_law_tape_here", "_law_threads", "_law_memory", "_law_stores", "_law_first", "_law_stacks", "_law_phases", "_law_work", "_law_slots_here", "_law_active", "_law_serial", "_law_rows", "_law_k", "_law_thread", "_law_number", "_law_store_here", "_law_other", "_law_others", "_law_slot", "_law_moved", "_law_taken", "_law_request", "_law_row", "_law_call", "_law_cell"] (defScope (top 30)) _ _ = true; decide +kernel)) (by decide) (fun _ _ _ _ _ => (rgn 24 sc_law.nd)) (fun _ _ _ _ _ => (rts_one (rt_neA hr.units (re_ixA hr.units (rv 24) re_int) (rv 14)))) (fun _ _ _ _ _ => (rv 24))))) rs_nil)
  (rs_cons (rs_if (rt_bool (rw_and (rt_not (rt_truth (rv 20))) (rw_and1 (rt_eqA hr.units (re_ixA hr.units (rv 7) (rv 14)) (re_str (k := 36)))))) (rs_cons (rs_put hr.units (rv 7) (rv 14) (re_str (k := 34)))
  (rs_one (rs_put hr.units (rv 8) (rv 14) (re_add re_int (re_mod (re_div (rv 15) re_int) re_int))))) (rs_one (rs_if (rt_not (rt_truth (rv 20))) (rs_one (rs_put hr.units (rv 7) (rv 14) (re_str (k := 33)))) rs_nil)))
  (rs_one (rs_if (rt_bool (rw_and (rt_eqA hr.units (re_ixA hr.units (rv 7) (rv 14)) (re_str (k := 36))) (rw_and (rt_eqA hr.units (re_ixA hr.units (re_ixA hr.units (re_ixA hr.units (re_meth0 (rv 3) (g_Memory_log T) runDefT_ar (hr.mono (by decide)) passE) (re_neg re_int)) re_int) re_int) (re_str (k := 2))) (rw_and1 (rt_isnot (re_meth (rv 3) (g_Memory_peek T) runDef_ar (hr.mono (by decide)) passE (ra_cons (re_add re_int (rv 14)) ra_nil)) re_non))))) (rs_cons (rst 22 sc_law.nd (re_meth (rv 3) (g_Memory_peek T) runDef_ar (hr.mono (by decide)) passE (ra_cons re_int ra_nil)))
  (rs_one (rs_if (rt_bool (rw_and (rt_eqA hr.units (rv 19) (rv 22)) (rw_and1 (rt_eqA hr.units (re_lcFA (by rfl) sc_law.nd (rv 10) (blkOk_by (own := [("_law_call", 24)]) (by show blkC ["_law_script", "_law_tape_here", "_law_threads", "_law_memory", "_law_stores", "_law_first", "_law_stacks", "_law_phases", "_law_work", "_law_slots_here", "_law_active", "_law_serial", "_law_rows", "_law_k", "_law_thread", "_law_number", "_law_store_here", "_law_other", "_law_others", "_law_slot", "_law_moved", "_law_taken", "_law_request", "_law_row", "_law_call", "_law_cell"] (defScope (top 30)) _ _ = true; decide +kernel)) (by decide) (fun _ _ _ _ _ => (rgn 24 sc_law.nd)) (fun _ _ _ _ _ => (rts_one (rt_eqA hr.units (re_ixA hr.units (rv 24) re_int) (rv 14)))) (fun _ _ _ _ _ => (rv 24))) (re_lst ra_nil))))) (rs_cons (rst 11 sc_law.nd (re_add (rv 11) re_int))
  (rs_cons (rs_put hr.units (rv 9) (rv 14) (rv 22))
  (rs_one (rst 10 sc_law.nd (re_add (rv 10) (re_lst (ra_cons (re_tup (ra_cons (rv 14) (ra_cons (rv 11) ra_nil))) ra_nil))))))) rs_nil))) rs_nil))))))))
  (rs_cons (rs_forR1 PassesOwn.never rfl rfl (T.free 70) (ra_cons (rv 2) ra_nil) (rgn 17 sc_law.nd) (rs_cons (rs_ex (re_call (g__law_known T) runDef_ar (hr.mono (by decide)) (by rfl) passE (ra_cons (re_ixA hr.units (rv 12) (rv 17)) (ra_cons (rv 10) ra_nil))))
  (rs_one (rs_if (rt_bool (rw_or (rt_not (rt_truth (re_call (g__law_held T) runDefT_ar (hr.mono (by decide)) (by rfl) passE (ra_cons (re_ixA hr.units (rv 4) (rv 17)) (ra_cons (re_ixA hr.units (rv 12) (rv 17)) (ra_cons (rv 10) ra_nil)))))) (rw_or1 (rt_not (rt_truth (re_call (g__law_whole T) runDefT_ar (hr.mono (by decide)) (by rfl) passE (ra_cons (re_ixA hr.units (rv 4) (rv 17)) (ra_cons (re_ixA hr.units (rv 5) (rv 17)) ra_nil)))))))) (rs_one (rs_ret re_bl)) rs_nil))))
  (rs_one (rs_if (rt_not (rt_truth (re_call (g__law_slots T) runDef_ar (hr.mono (by decide)) (by rfl) passE (ra_cons (rv 3) (ra_cons (rv 10) (ra_cons (rv 9) ra_nil)))))) (rs_one (rs_ret re_bl)) rs_nil))))))))
  (rs_cons (rs_forR1 PassesOwn.never rfl rfl (T.free 70) (ra_cons (rv 2) ra_nil) (rgn 14 sc_law.nd) (rs_cons (rs_setLcFR1 (i := 18) (by rfl) sc_law.nd (by rfl) (by rfl) (sw_true (by rfl) (by rfl) (by rfl) (by decide +kernel)) (by rfl) (by exact T.free 70) (ra_cons (rv 2) ra_nil) (blkOk_by (own := [("_law_k", 13)]) (by show blkC ["_law_script", "_law_tape_here", "_law_threads", "_law_memory", "_law_stores", "_law_first", "_law_stacks", "_law_phases", "_law_work", "_law_slots_here", "_law_active", "_law_serial", "_law_rows", "_law_k", "_law_thread", "_law_number", "_law_store_here", "_law_other", "_law_others", "_law_slot", "_law_moved", "_law_taken", "_law_request", "_law_row", "_law_call", "_law_cell"] (defScope (top 30)) _ _ = true; decide +kernel)) (by decide) (fun _ _ _ _ _ => (rgn 13 sc_law.nd)) (fun _ _ _ _ _ => (rts_one (rt_bool (rw_and (rt_neA hr.units (rv 13) (rv 14)) (rw_and1 (rt_isnot (re_meth (rv 3) (g_Memory_peek T) runDef_ar (hr.mono (by decide)) passE (ra_cons (re_add re_int (rv 13)) ra_nil)) re_non)))))) (fun _ _ _ _ _ => (rv 13)))
  (rs_one (rs_if (rt_bool (rw_and (rt_eqA hr.units (rv 18) (re_lst ra_nil)) (rw_and1 (rt_eqA hr.units (re_ixA hr.units (rv 7) (rv 14)) (re_str (k := 33)))))) (rs_one (rs_if (rt_not (rt_truth (re_call (g__law_alone T) runDef_ar (hr.mono (by decide)) (by rfl) passE (ra_cons (rv 3) (ra_cons (re_ixA hr.units (rv 4) (rv 14)) (ra_cons (rv 14) ra_nil)))))) (rs_one (rs_ret re_bl)) rs_nil)) rs_nil))))
  (rs_one (rs_ret re_bl))))))))))))))))
theorem ok_law (T : Txt fa fn fx ts w K mg) {fd : FuncData} (F : FunD K "law" "law" (defArgs (top 30)) (defBody (top 30)) (defScope (top 30)) [] [] (He.ga K "law") fd) : FnOk P w K mg base CX0 10 (He.ga K "law") fd ["_law_script"] (spF K 1 m_law) :=
  fn_ok0 Wk.refl F sc_law (b := b_law) (bo_law T _)
end
end Dk
namespace Dk
open PySem PySem.Spec PyProof.Rows L2 R1
theorem run0 (w : World) : HandSHeadRun.RunEq R (PySem.W.view R.prog [30]) hk ob 5000 loose (w.withFollow "special-get-raises" false) := by
  intro os
  kernel_rfl
theorem run1 (w : World) : HandSHeadRun.RunEq R (PySem.W.view R.prog [30]) hk ob 5000 loose (w.withFollow "special-get-raises" true) := by
  intro os
  kernel_rfl
theorem run (w : World) : HandSHeadRun.RunEq R (PySem.W.view R.prog [30]) hk ob 5000 loose w :=
  PySem.W.byRow2 "special-get-raises" (P := fun w => HandSHeadRun.RunEq R (PySem.W.view R.prog [30]) hk ob 5000 loose w) run0 run1 w
end Dk
namespace Dk
open PySem R1
/-! ### the layout -/
section
variable {G : Store} {L : Nat} {t w r : Int}
abbrev LayAt (G : Store) (L : Nat) (t w r : Int) : Prop := G[L]? = some (.ins 0 [.int t, .int w, .int r])
theorem lay_t (h : LayAt G L t w r) : fldV [(0, 0)] (.obj L) G = .ok (.int t) G := fldV_at h rfl
theorem lay_w (h : LayAt G L t w r) : fldV [(0, 1)] (.obj L) G = .ok (.int w) G := fldV_at h rfl
theorem lay_r (h : LayAt G L t w r) : fldV [(0, 2)] (.obj L) G = .ok (.int r) G := fldV_at h rfl
theorem mul2 {x : Int} : fMul true (.int 2) (.int x) G = .ok (.int (2 * x)) G := fMul_l (by decide)
theorem s_word (h : LayAt G L t w r) {i : Int} : m_Layout_word [.obj L, .int i] G = .ok (.int (1 + 2 * t + i)) G := by
  unfold m_Layout_word b_Layout_word
  rw [runT_eq (by rfl)]
  simp [lay_t h, mul2, trunc_d0]
theorem s_call_slot (h : LayAt G L t w r) {i : Int} : m_Layout_call_slot [.obj L, .int i] G = .ok (.int (1 + t + i)) G := by
  unfold m_Layout_call_slot b_Layout_call_slot
  rw [runT_eq (by rfl)]
  simp [lay_t h, trunc_d0]
theorem s_record (h : LayAt G L t w r) {i : Int} : m_Layout_record [.obj L, .int i] G = .ok (.int (1 + 2 * t + w + i)) G := by
  unfold m_Layout_record b_Layout_record
  rw [runT_eq (by rfl)]
  simp [lay_t h, lay_w h, mul2, trunc_d0]
theorem s_cells (h : LayAt G L t w r) : m_Layout_cells [.obj L] G = .ok (.int (1 + 2 * t + w + r)) G := by
  unfold m_Layout_cells b_Layout_cells
  rw [runT_eq (by rfl)]
  simp [methV_1 h, lay_r h, s_record h, trunc_d0]
theorem s_is_lasting (h : LayAt G L t w r) {c : Int} : m_Layout_is_lasting [.obj L, .int c] G = .ok (.bl (decide (1 + t ≤ c) && decide (c < 1 + 2 * t + w + r))) G := by
  unfold m_Layout_is_lasting b_Layout_is_lasting
  rw [runT_eq (by rfl)]
  by_cases h1 : 1 + t ≤ c
  · simp [methV_1 h, methV_1 h, s_cells h, s_call_slot h, h1, trunc_d0]
  · simp [methV_1 h, methV_1 h, s_cells h, s_call_slot h, h1, trunc_d0]
theorem s_is_within {a lo hi : Int} : m_is_within [.int a, .int lo, .int hi] G = .ok (.bl (decide (lo ≤ a) && decide (a ≤ hi))) G := by
  unfold m_is_within b_is_within
  rw [runT_eq (by rfl)]
  by_cases h1 : lo ≤ a <;> simp [isTy, h1, trunc_d0]
end
/-! ### lists and dicts of the store, by their objects -/
def Objs {α : Type} (e : α → Ob) (G : Store) : List Nat → List α → Prop
  | [], [] => True
  | o :: os, a :: as => G[o]? = some (e a) ∧ Objs e G os as
  | _, _ => False
section
variable {α : Type} {e : α → Ob} {G G' : Store}
theorem Objs.get : ∀ {os : List Nat} {as : List α} {t : Nat} {a : α}, Objs e G os as → as[t]? = some a → ∃ o, os[t]? = some o ∧ G[o]? = some (e a)
  | [], [], t, a, _, h => by simp at h
  | o :: os, b :: as, 0, a, h, k => by
    simp at k
    subst k
    exact ⟨o, rfl, h.1⟩
  | o :: os, b :: as, t + 1, a, h, k => by
    rw [List.getElem?_cons_succ] at k ⊢
    exact Objs.get h.2 k
theorem Objs.stay : ∀ {os : List Nat} {as : List α}, Objs e G os as → (∀ o ∈ os, G'[o]? = G[o]?) → Objs e G' os as
  | [], [], _, _ => trivial
  | o :: os, a :: as, h, k => ⟨by rw [k o (List.mem_cons_self ..)]; exact h.1, Objs.stay h.2 fun x hx => k x (List.mem_cons_of_mem _ hx)⟩
theorem Objs.len : ∀ {os : List Nat} {as : List α}, Objs e G os as → os.length = as.length
  | [], [], _ => rfl
  | _ :: _, _ :: _, h => congrArg Nat.succ (Objs.len h.2)
theorem Objs.lt : ∀ {os : List Nat} {as : List α}, Objs e G os as → ∀ o ∈ os, o < G.length
  | [], [], _, o, h => by cases h
  | q :: os, a :: as, h, o, ho => by
    rcases List.mem_cons.mp ho with rfl | ho
    · exact (List.getElem?_eq_some_iff.mp h.1).1
    · exact Objs.lt h.2 o ho
/-- one object has a new content -/
theorem Objs.put {a : α} : ∀ {os : List Nat} {as : List α} {t o : Nat}, Objs e G os as → os.Nodup → os[t]? = some o → (∀ q ∈ os, q ≠ o → G'[q]? = G[q]?) → G'[o]? = some (e a) → Objs e G' os (as.set t a)
  | [], [], t, o, _, _, h, _, _ => by simp at h
  | q :: os, b :: as, 0, o, h, n, k, f, g => by
    simp at k
    subst k
    obtain ⟨n1, n2⟩ := List.nodup_cons.mp n
    exact ⟨g, h.2.stay fun x hx => f x (List.mem_cons_of_mem _ hx) fun z => n1 (z ▸ hx)⟩
  | q :: os, b :: as, t + 1, o, h, n, k, f, g => by
    rw [List.getElem?_cons_succ] at k
    obtain ⟨n1, n2⟩ := List.nodup_cons.mp n
    exact ⟨by rw [f q (List.mem_cons_self ..) fun z => n1 (z ▸ List.mem_of_getElem? k)]; exact h.1, Objs.put h.2 n2 k (fun x hx => f x (List.mem_cons_of_mem _ hx)) g⟩
/-- one object is another now -/
theorem Objs.new {a : α} {o : Nat} : ∀ {os : List Nat} {as : List α} {t : Nat}, Objs e G os as → t < os.length → (∀ q ∈ os, G'[q]? = G[q]?) → G'[o]? = some (e a) → Objs e G' (os.set t o) (as.set t a)
  | [], [], t, _, h, _, _ => by simp at h
  | q :: os, b :: as, 0, h, _, f, g => ⟨g, h.2.stay fun x hx => f x (List.mem_cons_of_mem _ hx)⟩
  | q :: os, b :: as, t + 1, h, k, f, g => ⟨by rw [f q (List.mem_cons_self ..)]; exact h.1, Objs.new h.2 (Nat.lt_of_succ_lt_succ k) (fun x hx => f x (List.mem_cons_of_mem _ hx)) g⟩
end
abbrev lsO (l : List Val) : Ob := .lst l
abbrev dcO (d : Prs) : Ob := .dic (kvE Val.int d)
/-- a memory -/
structure Me where
  t : Nat
  w : Nat
  r : Nat
  count : Nat
  rows : List Val
  trails : List (List Val)
  notes : List Prs
/-- where it lies -/
structure Mx where
  M : Nat
  L : Nat
  R : Nat
  TR : Nat
  N : Nat
  ts : List Nat
  ns : List Nat
def Mx.own (x : Mx) : List Nat := x.M :: x.R :: x.TR :: x.N :: (x.ts ++ x.ns)
structure MemAt (x : Mx) (m : Me) (G : Store) : Prop where
  mem : G[x.M]? = some (.ins 1 [.obj x.L, .int (m.count : Int), .obj x.R, .obj x.TR, .obj x.N])
  lay : LayAt G x.L m.t m.w m.r
  rows : G[x.R]? = some (.lst m.rows)
  tr : G[x.TR]? = some (.lst (x.ts.map .obj))
  trs : Objs lsO G x.ts m.trails
  no : G[x.N]? = some (.lst (x.ns.map .obj))
  nos : Objs dcO G x.ns m.notes
  nd : (x.L :: x.own).Nodup
def Me.cells (m : Me) : Nat := 1 + 2 * m.t + m.w + m.r
def Me.last (m : Me) (c : Nat) : Bool := decide (1 + m.t ≤ c) && decide (c < m.cells)
def okV (v : Val) : Prop := dat v = true ∧ ∃ d, dataOf v = some d
structure Me.Wf (m : Me) : Prop where
  len : m.trails.length = m.cells
  ne : ∀ l ∈ m.trails, l ≠ []
  val : ∀ l ∈ m.trails, ∀ v ∈ l, okV v
  tl : ∀ l ∈ m.trails, l.length ≤ m.count + 1
  nl : m.notes.length = m.t
  nk : ∀ d ∈ m.notes, (Keys d).Nodup
  rl : m.rows.length ≤ m.count
  nc : ∀ d ∈ m.notes, ∀ k ∈ Keys d, ∃ c : Nat, k = (c : Int) ∧ c < m.cells ∧ m.last c = true
  cb : m.cells ≤ 5000
/-- what is not the memory's stays -/
structure Fr (x : Mx) (G : Store) (x' : Mx) (G' : Store) : Prop where
  M : x'.M = x.M
  L : x'.L = x.L
  off : ∀ j, j < G.length → j ∉ x.own → G'[j]? = G[j]?
  len : G.length ≤ G'.length
  own : ∀ j ∈ x'.own, j ∈ x.own ∨ G.length ≤ j
theorem Fr.refl {x : Mx} {G : Store} : Fr x G x G := ⟨rfl, rfl, fun _ _ _ => rfl, Nat.le_refl _, fun _ h => .inl h⟩
theorem Fr.trans {x y z : Mx} {G G' G2 : Store} (a : Fr x G y G') (b : Fr y G' z G2) : Fr x G z G2 :=
  ⟨b.M.trans a.M, b.L.trans a.L, fun j h1 h2 => (b.off j (Nat.lt_of_lt_of_le h1 a.len) fun z => (a.own j z).elim h2 fun q => absurd h1 (Nat.not_lt.mpr q)).trans (a.off j h1 h2), Nat.le_trans a.len b.len, fun j h => (b.own j h).elim (a.own j) fun q => .inr (Nat.le_trans a.len q)⟩
section
variable {x : Mx} {m : Me} {G : Store} {c : Nat}
theorem MemAt.stay {G' : Store} (h : MemAt x m G) (k : ∀ j, j = x.L ∨ j ∈ x.own → G'[j]? = G[j]?) : MemAt x m G' := by
  have ow : ∀ j, j ∈ x.M :: x.R :: x.TR :: x.N :: (x.ts ++ x.ns) → G'[j]? = G[j]? := fun j hj => k j (.inr hj)
  exact ⟨by rw [ow x.M (by simp)]; exact h.mem, by unfold LayAt; rw [k x.L (.inl rfl)]; exact h.lay, by rw [ow x.R (by simp)]; exact h.rows, by rw [ow x.TR (by simp)]; exact h.tr, h.trs.stay fun o ho => ow o (by simp [ho]), by rw [ow x.N (by simp)]; exact h.no, h.nos.stay fun o ho => ow o (by simp [ho]), h.nd⟩
/-! reading -/
theorem mf_lay (h : MemAt x m G) : fldV [(1, 0)] (.obj x.M) G = .ok (.obj x.L) G := fldV_at h.mem rfl
theorem mf_count (h : MemAt x m G) : fldV [(1, 1)] (.obj x.M) G = .ok (.int (m.count : Int)) G := fldV_at h.mem rfl
theorem mf_rows (h : MemAt x m G) : fldV [(1, 2)] (.obj x.M) G = .ok (.obj x.R) G := fldV_at h.mem rfl
theorem mf_tr (h : MemAt x m G) : fldV [(1, 3)] (.obj x.M) G = .ok (.obj x.TR) G := fldV_at h.mem rfl
theorem mf_no (h : MemAt x m G) : fldV [(1, 4)] (.obj x.M) G = .ok (.obj x.N) G := fldV_at h.mem rfl
theorem len_tr (h : MemAt x m G) (wf : m.Wf) : bLen [.obj x.TR] G = .ok (.int (m.cells : Int)) G := by
  have := bLen_obj h.tr
  rw [List.length_map, h.trs.len, wf.len] at this
  exact this
theorem tr_at (h : MemAt x m G) (wf : m.Wf) (hc : c < m.cells) : ∃ o l, x.ts[c]? = some o ∧ m.trails[c]? = some l ∧ l ≠ [] ∧ G[o]? = some (.lst l) ∧ fIx (.obj x.TR) (.int (c : Int)) G = .ok (.obj o) G := by
  have hl : c < m.trails.length := by rw [wf.len]; exact hc
  obtain ⟨o, e1, e2⟩ := h.trs.get (List.getElem?_eq_getElem hl)
  exact ⟨o, _, e1, List.getElem?_eq_getElem hl, wf.ne _ (List.getElem_mem hl), e2, fIx_lobj h.tr (by rw [List.getElem?_map, e1]; rfl)⟩
def Me.cur (m : Me) (c : Nat) : Val := ((m.trails[c]?.getD []).getLast?).getD .non
theorem atL_last {l : List Val} : atL l (-1) = l.getLast? := by
  unfold atL L2.atI
  cases l with
  | nil => rfl
  | cons v l =>
    have e : L2.ixN (v :: l).length (-1) = some l.length := by
      unfold L2.ixN
      simp
      omega
    rw [e]
    show (v :: l)[l.length]? = _
    rw [List.getLast?_eq_getElem?]
    simp
theorem fIx_last {o : Nat} {l : List Val} {v : Val} (h : G[o]? = some (.lst l)) (e : l.getLast? = some v) : fIx (.obj o) (.int (-1)) G = .ok v G := by
  unfold fIx orF fIxS
  rw [items_obj h]
  simp only [atL_last, e]
theorem cur_at (wf : m.Wf) (hc : c < m.cells) {l : List Val} (hl : m.trails[c]? = some l) : l.getLast? = some (m.cur c) ∧ okV (m.cur c) := by
  have hm := List.mem_of_getElem? hl
  obtain ⟨v, hv⟩ := Option.ne_none_iff_exists'.mp (fun z => wf.ne _ hm (List.getLast?_eq_none_iff.mp z))
  have e : m.cur c = v := by
    unfold Me.cur
    rw [hl]
    simp [hv]
  rw [e]
  exact ⟨hv, wf.val _ hm _ (List.mem_of_getLast? hv)⟩
theorem s_check_cell (h : MemAt x m G) (wf : m.Wf) (hc : c < m.cells) : m_Memory_check_cell [.obj x.M, .int (c : Int)] G = .ok .non G := by
  unfold m_Memory_check_cell b_Memory_check_cell
  rw [run_eq (by rfl)]
  have h1 : ((c : Int) ≤ (m.cells : Int) - 1) := by omega
  simp [mf_tr h, len_tr h wf, s_is_within, h1]
theorem s_peek (h : MemAt x m G) (wf : m.Wf) (hc : c < m.cells) : m_Memory_peek [.obj x.M, .int (c : Int)] G = .ok (m.cur c) G := by
  unfold m_Memory_peek b_Memory_peek
  rw [run_eq (by rfl)]
  obtain ⟨o, l, e1, e2, e3, e4, e5⟩ := tr_at h wf hc
  obtain ⟨e6, _⟩ := cur_at wf hc e2
  simp [methV_1 h.mem, s_check_cell h wf hc, mf_tr h, e5, fIx_last e4 e6]
theorem lastI (h : MemAt x m G) : m_Layout_is_lasting [.obj x.L, .int (c : Int)] G = .ok (.bl (m.last c)) G := by
  rw [s_is_lasting h.lay]
  unfold Me.last Me.cells
  congr 3
  · simp only [decide_eq_decide]
    omega
  · simp only [decide_eq_decide]
    omega
theorem s_check_lasting (h : MemAt x m G) (wf : m.Wf) (hc : c < m.cells) (hl : m.last c = true) : m_Memory_check_lasting [.obj x.M, .int (c : Int)] G = .ok .non G := by
  unfold m_Memory_check_lasting b_Memory_check_lasting
  rw [run_eq (by rfl)]
  simp [methV_1 h.mem, s_check_cell h wf hc, mf_lay h, methV_1 h.lay, lastI h, hl]
end
section
variable {x : Mx} {m : Me} {G : Store} {c : Nat}
theorem nodup_set {n : Nat} : ∀ {l : List Nat} {c : Nat}, l.Nodup → n ∉ l → (l.set c n).Nodup
  | [], c, _, _ => by simp
  | q :: l, 0, h, hn => by
    obtain ⟨h1, h2⟩ := List.nodup_cons.mp h
    exact List.nodup_cons.mpr ⟨fun z => hn (List.mem_cons_of_mem _ z), h2⟩
  | q :: l, c + 1, h, hn => by
    obtain ⟨h1, h2⟩ := List.nodup_cons.mp h
    refine List.nodup_cons.mpr ⟨fun z => ?_, nodup_set h2 fun z => hn (List.mem_cons_of_mem _ z)⟩
    rcases List.mem_or_eq_of_mem_set z with z | z
    · exact h1 z
    · exact hn (by rw [z]; exact List.mem_cons_self ..)
theorem MemAt.lt (h : MemAt x m G) : ∀ j ∈ x.own, j < G.length := by
  intro j hj
  unfold Mx.own at hj
  simp only [List.mem_cons, List.mem_append] at hj
  rcases hj with rfl | rfl | rfl | rfl | hj | hj
  · exact (List.getElem?_eq_some_iff.mp h.mem).1
  · exact (List.getElem?_eq_some_iff.mp h.rows).1
  · exact (List.getElem?_eq_some_iff.mp h.tr).1
  · exact (List.getElem?_eq_some_iff.mp h.no).1
  · exact h.trs.lt j hj
  · exact h.nos.lt j hj
theorem MemAt.ltL (h : MemAt x m G) : x.L < G.length := (List.getElem?_eq_some_iff.mp h.lay).1
/-- the pieces of nodup -/
structure Mx.Ne (x : Mx) : Prop where
  LM : x.L ≠ x.M
  LR : x.L ≠ x.R
  LT : x.L ≠ x.TR
  LN : x.L ≠ x.N
  Lt : x.L ∉ x.ts
  Ln : x.L ∉ x.ns
  MR : x.M ≠ x.R
  MT : x.M ≠ x.TR
  MN : x.M ≠ x.N
  Mt : x.M ∉ x.ts
  Mn : x.M ∉ x.ns
  RT : x.R ≠ x.TR
  RN : x.R ≠ x.N
  Rt : x.R ∉ x.ts
  Rn : x.R ∉ x.ns
  TN : x.TR ≠ x.N
  Tt : x.TR ∉ x.ts
  Tn : x.TR ∉ x.ns
  Nt : x.N ∉ x.ts
  Nn : x.N ∉ x.ns
  ts : x.ts.Nodup
  ns : x.ns.Nodup
  dj : ∀ a ∈ x.ts, a ∉ x.ns
theorem MemAt.ne (h : MemAt x m G) : x.Ne := by
  have h0 := h.nd
  unfold Mx.own at h0
  simp only [List.nodup_cons, List.mem_cons, List.mem_append, not_or, List.nodup_append] at h0
  obtain ⟨⟨a1, a2, a3, a4, a5, a6⟩, ⟨b2, b3, b4, b5, b6⟩, ⟨c3, c4, c5, c6⟩, ⟨d4, d5, d6⟩, ⟨e5, e6⟩, f1, f2, f3⟩ := h0
  exact ⟨a1, a2, a3, a4, a5, a6, b2, b3, b4, b5, b6, c3, c4, c5, c6, d4, d5, d6, e5, e6, f1, f2, fun a h1 h2 => f3 a h1 a h2 rfl⟩
/-- a trail is changed in its place -/
theorem MemAt.put (h : MemAt x m G) {o : Nat} {l : List Val} (e : x.ts[c]? = some o) : MemAt x { m with trails := m.trails.set c l } (G.set o (Ob.lst l)) ∧ Fr x G x (G.set o (Ob.lst l)) := by
  have ho := List.mem_of_getElem? e
  have n := h.ne
  have hol := h.trs.lt o ho
  have k : ∀ j, j ≠ o → (G.set o (Ob.lst l))[j]? = G[j]? := fun j hj => List.getElem?_set_ne (Ne.symm hj)
  have mem : ∀ {j : Nat}, j ∉ x.ts → j ≠ o := fun hj z => hj (z ▸ ho)
  refine ⟨⟨?_, ?_, ?_, ?_, ?_, ?_, ?_, h.nd⟩, rfl, rfl, fun j h1 h2 => k j fun z => h2 ?_, by rw [List.length_set]; exact Nat.le_refl _, fun j hj => .inl hj⟩
  · rw [k _ (mem n.Mt)]; exact h.mem
  · show _ = _
    rw [k _ (mem n.Lt)]; exact h.lay
  · rw [k _ (mem n.Rt)]; exact h.rows
  · rw [k _ (mem n.Tt)]; exact h.tr
  · exact h.trs.put n.ts e (fun q _ hq => k q hq) (by rw [List.getElem?_set_self hol])
  · rw [k _ (mem n.Nt)]; exact h.no
  · exact h.nos.stay fun q hq => k q fun z => n.dj o ho (z ▸ hq)
  · unfold Mx.own
    rw [z]
    simp [ho]
/-- a trail is another list now -/
theorem MemAt.new (h : MemAt x m G) {l : List Val} (hc : c < x.ts.length) : MemAt { x with ts := x.ts.set c G.length } { m with trails := m.trails.set c l } ((G ++ [Ob.lst l]).set x.TR (Ob.lst ((x.ts.set c G.length).map Val.obj))) ∧ Fr x G { x with ts := x.ts.set c G.length } ((G ++ [Ob.lst l]).set x.TR (Ob.lst ((x.ts.set c G.length).map Val.obj))) := by
  have n := h.ne
  have hT : x.TR < G.length := (List.getElem?_eq_some_iff.mp h.tr).1
  have k : ∀ j, j ≠ x.TR → j < G.length → ((G ++ [Ob.lst l]).set x.TR (Ob.lst ((x.ts.set c G.length).map Val.obj)))[j]? = G[j]? := fun j hj hl => by
    rw [List.getElem?_set_ne (Ne.symm hj), List.getElem?_append_left hl]
  have lt := h.lt
  have ow : ∀ {j : Nat}, (j = x.M ∨ j = x.R ∨ j = x.TR ∨ j = x.N ∨ j ∈ x.ts ∨ j ∈ x.ns) → j < G.length := fun hj => lt _ (by unfold Mx.own; simpa using hj)
  refine ⟨⟨?_, ?_, ?_, ?_, ?_, ?_, ?_, ?_⟩, rfl, rfl, fun j h1 h2 => k j (fun z => h2 (by unfold Mx.own; rw [z]; simp)) h1, by simp, fun j hj => ?_⟩
  · rw [k _ n.MT (ow (.inl rfl))]; exact h.mem
  · show _ = _
    rw [k _ n.LT h.ltL]; exact h.lay
  · rw [k _ n.RT (ow (.inr (.inl rfl)))]; exact h.rows
  · rw [List.getElem?_set_self (by rw [List.length_append]; omega)]
  · refine h.trs.new hc (fun q hq => k q (fun z => n.Tt (z ▸ hq)) (ow (.inr (.inr (.inr (.inr (.inl hq))))))) ?_
    rw [List.getElem?_set_ne (show x.TR ≠ G.length by omega)]
    simp
  · rw [k _ (Ne.symm n.TN) (ow (.inr (.inr (.inr (.inl rfl)))))]; exact h.no
  · exact h.nos.stay fun q hq => k q (fun z => n.Tn (z ▸ hq)) (ow (.inr (.inr (.inr (.inr (.inr hq))))))
  · have e : (x.L :: Mx.own { x with ts := x.ts.set c G.length }) = (x.L :: x.own).set (c + 5) G.length := by
      unfold Mx.own
      show _ = x.L :: x.M :: x.R :: x.TR :: x.N :: (x.ts ++ x.ns).set c G.length
      rw [List.set_append_left _ _ hc]
    show (x.L :: Mx.own { x with ts := x.ts.set c G.length }).Nodup
    rw [e]
    refine nodup_set h.nd fun z => ?_
    rcases List.mem_cons.mp z with z | z
    · have := h.ltL
      omega
    · have := lt _ z
      omega
  · unfold Mx.own at hj ⊢
    simp only [List.mem_cons, List.mem_append] at hj ⊢
    rcases hj with hj | hj | hj | hj | hj | hj
    · exact .inl (.inl hj)
    · exact .inl (.inr (.inl hj))
    · exact .inl (.inr (.inr (.inl hj)))
    · exact .inl (.inr (.inr (.inr (.inl hj))))
    · rcases List.mem_or_eq_of_mem_set hj with hj | hj
      · exact .inl (.inr (.inr (.inr (.inr (.inl hj)))))
      · exact .inr (by omega)
    · exact .inl (.inr (.inr (.inr (.inr (.inr hj)))))
/-- a thread's notes are changed in their place -/
theorem MemAt.note (h : MemAt x m G) {o th : Nat} {d : Prs} (e : x.ns[th]? = some o) : MemAt x { m with notes := m.notes.set th d } (G.set o (Ob.dic (kvE Val.int d))) ∧ Fr x G x (G.set o (Ob.dic (kvE Val.int d))) := by
  have ho := List.mem_of_getElem? e
  have n := h.ne
  have hol := h.nos.lt o ho
  have k : ∀ j, j ≠ o → (G.set o (Ob.dic (kvE Val.int d)))[j]? = G[j]? := fun j hj => List.getElem?_set_ne (Ne.symm hj)
  have mem : ∀ {j : Nat}, j ∉ x.ns → j ≠ o := fun hj z => hj (z ▸ ho)
  refine ⟨⟨?_, ?_, ?_, ?_, ?_, ?_, ?_, h.nd⟩, rfl, rfl, fun j h1 h2 => k j fun z => h2 ?_, by rw [List.length_set]; exact Nat.le_refl _, fun j hj => .inl hj⟩
  · rw [k _ (mem n.Mn)]; exact h.mem
  · show _ = _
    rw [k _ (mem n.Ln)]; exact h.lay
  · rw [k _ (mem n.Rn)]; exact h.rows
  · rw [k _ (mem n.Tn)]; exact h.tr
  · exact h.trs.stay fun q hq => k q fun z => n.dj q hq (z ▸ ho)
  · rw [k _ (mem n.Nn)]; exact h.no
  · exact h.nos.put n.ns e (fun q _ hq => k q hq) (by rw [List.getElem?_set_self hol])
  · unfold Mx.own
    rw [z]
    simp [ho]
end
section
variable {x : Mx} {m : Me} {G : Store} {c : Nat}
theorem MemAt.app (h : MemAt x m G) {J : Store} : MemAt x m (G ++ J) := h.stay fun j hj => by
  have : j < G.length := by
    rcases hj with rfl | hj
    · exact h.ltL
    · exact h.lt j hj
  rw [List.getElem?_append_left this]
def Me.tr (m : Me) (c : Nat) : List Val := m.trails[c]?.getD []
def Me.give (m : Me) (c : Nat) (v : Val) : Me := { m with trails := m.trails.set c (if m.last c = true then m.tr c ++ [v] else [v]) }
theorem s_give (h : MemAt x m G) (wf : m.Wf) (hc : c < m.cells) (hz : m.count ≤ 100000) {v : Val} : ∃ x' G', m_Memory_give [.obj x.M, .int (c : Int), v] G = .ok .non G' ∧ MemAt x' (m.give c v) G' ∧ Fr x G x' G' := by
  unfold m_Memory_give b_Memory_give
  rw [run_eq (by rfl)]
  obtain ⟨o, l, e1, e2, e3, e4, e5⟩ := tr_at h wf hc
  have etr : m.tr c = l := by unfold Me.tr; rw [e2]; rfl
  by_cases hl : m.last c = true
  · have hll := wf.tl l (List.mem_of_getElem? e2)
    have ap : setLst (.obj o) (fun l => if l.length < sizeLine then some (l ++ [v]) else none) G = some (G.set o (.lst (l ++ [v]))) := setLst_obj e4 (if_pos (small_lt (by omega)))
    obtain ⟨h1, h2⟩ := h.put (l := l ++ [v]) e1
    refine ⟨x, _, ?_, ?_, h2⟩
    · unfold eApp
      simp [mf_lay h, methV_1 h.lay, lastI h, hl, mf_tr h, e5, e4, ap]
    · unfold Me.give
      rw [if_pos hl, etr]
      exact h1
  · have hl' : m.last c = false := by simpa using hl
    have h' := h.app (J := [.lst [v]])
    have hct : c < x.ts.length := by rw [h.trs.len, wf.len]; exact hc
    obtain ⟨h1, h2⟩ := h.new (l := [v]) hct
    have p := putA_lst (G := G ++ [.lst [v]]) (i := x.TR) (k := c) (w := .obj G.length) h'.tr (by rw [List.length_map]; exact hct)
    have em : (x.ts.map Val.obj).set c (.obj G.length) = (x.ts.set c G.length).map Val.obj := by rw [List.map_set]
    rw [em] at p
    refine ⟨_, _, ?_, ?_, h2⟩
    · simp [mf_lay h, methV_1 h.lay, lastI h, hl', mf_tr h', p]
    · unfold Me.give
      rw [if_neg hl]
      exact h1
/-- how far a trail is shortened -/
def Me.cutN (m : Me) (c : Nat) (s : Int) : Nat := (if (if ((m.tr c).length : Int) - 1 < s then ((m.tr c).length : Int) - 1 else s) > 0 then (if ((m.tr c).length : Int) - 1 < s then ((m.tr c).length : Int) - 1 else s) else 0).toNat
def shD (c k : Nat) (d : Prs) : Prs := match lookA d (c : Int) with
  | some a => putL d (c : Int) (if a - (k : Int) > 0 then a - (k : Int) else 0)
  | none => d
def Me.shorten (m : Me) (c : Nat) (s : Int) : Me := { m with trails := m.trails.set c ((m.tr c).drop (m.cutN c s)), notes := m.notes.map (shD c (m.cutN c s)) }
end
section
variable {x : Mx} {m : Me} {G : Store} {c : Nat}
/-- requests -/
inductive Rq where
  | read (c : Nat) | write (c : Nat) (v : Val) | swap (c : Nat) (a b : Val) | decide (c : Nat) (v : Val) | flush (c : Nat) | fence
def Rq.val : Rq → Val
  | .read c => .tup [.str 2, .int (c : Int)]
  | .write c v => .tup [.str 3, .int (c : Int), v]
  | .swap c a b => .tup [.str 4, .int (c : Int), a, b]
  | .decide c v => .tup [.str 5, .int (c : Int), v]
  | .flush c => .tup [.str 6, .int (c : Int)]
  | .fence => .tup [.str 7]
def Rq.ok (m : Me) : Rq → Prop
  | .read c => c < m.cells
  | .write c v => c < m.cells ∧ okV v
  | .swap c a b => c < m.cells ∧ okV a ∧ okV b
  | .decide c v => c < m.cells ∧ okV v ∧ ∃ d, toD [] 39 v = some d
  | .flush c => c < m.cells ∧ m.last c = true
  | .fence => True
/-- equal as data -/
def sameV (v u : Val) : Bool := match dataOf v, dataOf u with
  | some d, some e => PyData.eqv d e
  | _, _ => false
theorem fNe_ok {v u : Val} (hv : okV v) (hu : okV u) : fNeA v u G = .ok (.bl (!sameV v u)) G := by
  obtain ⟨h1, d, h2⟩ := hv
  obtain ⟨h3, e, h4⟩ := hu
  rw [fNeA_dat h1 h3 h2 h4]
  unfold sameV
  rw [h2, h4]
theorem ok_int {i : Int} : okV (.int i) := ⟨rfl, _, rfl⟩
theorem ok_non : okV .non := ⟨rfl, _, rfl⟩
theorem s_check_request (h : MemAt x m G) (wf : m.Wf) {q : Rq} (hq : q.ok m) {th : Nat} (ht : th < m.t) : m_Memory_check_request [.obj x.M, .int (th : Int), q.val] G = .ok .non G := by
  unfold m_Memory_check_request b_Memory_check_request
  rw [run_eq (by rfl)]
  have h1 : (th : Int) ≤ (m.t : Int) - 1 := by omega
  have f1 := lay_t h.lay
  cases q with
  | read c =>
    simp only [Rq.val]
    simp [mf_lay h, f1, s_is_within, h1, isTy, List.lookup, methV_1 h.mem, s_check_cell h wf (show c < m.cells from hq)]
  | write c v =>
    simp only [Rq.val]
    simp [mf_lay h, f1, s_is_within, h1, isTy, List.lookup, methV_1 h.mem, s_check_cell h wf hq.1]
  | swap c a b =>
    simp only [Rq.val]
    simp [mf_lay h, f1, s_is_within, h1, isTy, List.lookup, methV_1 h.mem, s_check_cell h wf hq.1]
  | decide c v =>
    simp only [Rq.val]
    simp [mf_lay h, f1, s_is_within, h1, isTy, List.lookup, methV_1 h.mem, s_check_cell h wf hq.1]
  | flush c =>
    simp only [Rq.val]
    simp [mf_lay h, f1, s_is_within, h1, isTy, List.lookup, methV_1 h.mem, s_check_lasting h wf hq.1 hq.2]
  | fence =>
    simp only [Rq.val]
    simp [mf_lay h, f1, s_is_within, h1, isTy, List.lookup]
def Me.note (m : Me) (th c : Nat) : Me := { m with notes := m.notes.set th (putL (m.notes[th]?.getD []) (c : Int) (((m.tr c).length : Int) - 1)) }
/-- what a request gives, but a fence -/
def Me.res (m : Me) (th : Nat) : Rq → Val × Me
  | .read c => (m.cur c, m)
  | .write c v => (.non, m.give c v)
  | .swap c a b => if sameV (m.cur c) a = true then (.bl true, m.give c b) else (.bl false, m)
  | .decide c v => if sameV (m.cur c) (.int 0) = true then (.bl true, m.give c (.tup [v, .int (m.count : Int)])) else (.bl false, m)
  | .flush c => (.non, m.note th c)
  | .fence => (.non, m)
theorem s_result (h : MemAt x m G) (wf : m.Wf) (hz : m.count ≤ 100000) {q : Rq} (hq : q.ok m) {th : Nat} (ht : th < m.t) (hnd : ∀ d ∈ m.notes, d.length ≤ 5000) (nf : q ≠ .fence) : ∃ x' G', m_Memory_result [.obj x.M, .int (th : Int), q.val] G = .ok (m.res th q).1 G' ∧ MemAt x' (m.res th q).2 G' ∧ Fr x G x' G' := by
  unfold m_Memory_result b_Memory_result
  rw [run_eq (by rfl)]
  have n1 : ∀ G, fIx (.obj x.TR) (.int 1) G = fIx (.obj x.TR) (.int 1) G := fun _ => rfl
  cases q with
  | fence => exact absurd rfl nf
  | read c =>
    obtain ⟨o, l, e1, e2, e3, e4, e5⟩ := tr_at h wf (show c < m.cells from hq)
    obtain ⟨e6, _⟩ := cur_at wf (show c < m.cells from hq) e2
    refine ⟨x, G, ?_, h, Fr.refl⟩
    simp only [Rq.val, Me.res]
    simp [mf_tr h, e5, fIx_last e4 e6]
  | write c v =>
    obtain ⟨o, l, e1, e2, e3, e4, e5⟩ := tr_at h wf hq.1
    obtain ⟨e6, _⟩ := cur_at wf hq.1 e2
    obtain ⟨x', G', g, z1, z2⟩ := s_give h wf hq.1 hz (v := v)
    refine ⟨x', G', ?_, z1, z2⟩
    simp only [Rq.val, Me.res]
    simp [mf_tr h, e5, fIx_last e4 e6, methV_1 h.mem, g]
  | swap c a b =>
    obtain ⟨o, l, e1, e2, e3, e4, e5⟩ := tr_at h wf hq.1
    obtain ⟨e6, e7⟩ := cur_at wf hq.1 e2
    have ne := fNe_ok (G := G) e7 hq.2.1
    obtain ⟨x', G', g, z1, z2⟩ := s_give h wf hq.1 hz (v := b)
    by_cases hs : sameV (m.cur c) a = true
    · refine ⟨x', G', ?_, by simp only [Me.res, if_pos hs]; exact z1, z2⟩
      simp only [Rq.val, Me.res, if_pos hs]
      simp [mf_tr h, e5, fIx_last e4 e6, ne, hs, methV_1 h.mem, g]
    · refine ⟨x, G, ?_, by simp only [Me.res, if_neg hs]; exact h, Fr.refl⟩
      simp only [Rq.val, Me.res, if_neg hs]
      simp [mf_tr h, e5, fIx_last e4 e6, ne, hs]
  | decide c v =>
    obtain ⟨o, l, e1, e2, e3, e4, e5⟩ := tr_at h wf hq.1
    obtain ⟨e6, e7⟩ := cur_at wf hq.1 e2
    have ne := fNe_ok (G := G) e7 (ok_int (i := 0))
    obtain ⟨x', G', g, z1, z2⟩ := s_give h wf hq.1 hz (v := .tup [v, .int (m.count : Int)])
    by_cases hs : sameV (m.cur c) (.int 0) = true
    · refine ⟨x', G', ?_, by simp only [Me.res, if_pos hs]; exact z1, z2⟩
      simp only [Rq.val, Me.res, if_pos hs]
      simp [mf_tr h, e5, fIx_last e4 e6, ne, hs, methV_1 h.mem, mf_count h, g]
    · refine ⟨x, G, ?_, by simp only [Me.res, if_neg hs]; exact h, Fr.refl⟩
      simp only [Rq.val, Me.res, if_neg hs]
      simp [mf_tr h, e5, fIx_last e4 e6, ne, hs]
  | flush c =>
    obtain ⟨o, l, e1, e2, e3, e4, e5⟩ := tr_at h wf hq.1
    have etr : m.tr c = l := by unfold Me.tr; rw [e2]; rfl
    have ln := bLen_obj e4
    have htn : th < m.notes.length := by rw [wf.nl]; exact ht
    obtain ⟨p, f1, f2⟩ := h.nos.get (List.getElem?_eq_getElem htn)
    have hd := hnd _ (List.getElem_mem htn)
    have fx : fIx (.obj x.N) (.int (th : Int)) G = .ok (.obj p) G := fIx_lobj h.no (by rw [List.getElem?_map, f1]; rfl)
    have pt := putA_dic (k := (c : Int)) (w := .int ((l.length : Int) - 1)) f2 (by rw [length_kvE]; omega)
    rw [put_kvE (e := Val.int)] at pt
    obtain ⟨z1, z2⟩ := h.note (d := putL m.notes[th] (c : Int) ((l.length : Int) - 1)) f1
    refine ⟨x, _, ?_, ?_, z2⟩
    · simp only [Rq.val, Me.res]
      simp [mf_tr h, e5, ln, mf_no h, fx, pt]
    · simp only [Me.res]
      unfold Me.note
      rw [etr, List.getElem?_eq_getElem htn]
      exact z1
end
section
variable {x : Mx} {m : Me} {G : Store} {c : Nat}
theorem MemAt.setCount (h : MemAt x m G) (k : Nat) : MemAt x { m with count := k } (G.set x.M (Ob.ins 1 [.obj x.L, .int (k : Int), .obj x.R, .obj x.TR, .obj x.N])) ∧ Fr x G x (G.set x.M (Ob.ins 1 [.obj x.L, .int (k : Int), .obj x.R, .obj x.TR, .obj x.N])) := by
  have n := h.ne
  have hM : x.M < G.length := (List.getElem?_eq_some_iff.mp h.mem).1
  have k1 : ∀ j, j ≠ x.M → (G.set x.M (Ob.ins 1 [.obj x.L, .int (k : Int), .obj x.R, .obj x.TR, .obj x.N]))[j]? = G[j]? := fun j hj => List.getElem?_set_ne (Ne.symm hj)
  refine ⟨⟨?_, ?_, ?_, ?_, ?_, ?_, ?_, h.nd⟩, rfl, rfl, fun j h1 h2 => k1 j fun z => h2 ?_, by rw [List.length_set]; exact Nat.le_refl _, fun j hj => .inl hj⟩
  · rw [List.getElem?_set_self hM]
  · show _ = _
    rw [k1 _ n.LM]; exact h.lay
  · rw [k1 _ (Ne.symm n.MR)]; exact h.rows
  · rw [k1 _ (Ne.symm n.MT)]; exact h.tr
  · exact h.trs.stay fun q hq => k1 q fun z => n.Mt (z ▸ hq)
  · rw [k1 _ (Ne.symm n.MN)]; exact h.no
  · exact h.nos.stay fun q hq => k1 q fun z => n.Mn (z ▸ hq)
  · unfold Mx.own
    rw [z]
    simp
theorem MemAt.setRows (h : MemAt x m G) (r : List Val) : MemAt x { m with rows := r } (G.set x.R (Ob.lst r)) ∧ Fr x G x (G.set x.R (Ob.lst r)) := by
  have n := h.ne
  have hM : x.R < G.length := (List.getElem?_eq_some_iff.mp h.rows).1
  have k1 : ∀ j, j ≠ x.R → (G.set x.R (Ob.lst r))[j]? = G[j]? := fun j hj => List.getElem?_set_ne (Ne.symm hj)
  refine ⟨⟨?_, ?_, ?_, ?_, ?_, ?_, ?_, h.nd⟩, rfl, rfl, fun j h1 h2 => k1 j fun z => h2 ?_, by rw [List.length_set]; exact Nat.le_refl _, fun j hj => .inl hj⟩
  · rw [k1 _ n.MR]; exact h.mem
  · show _ = _
    rw [k1 _ n.LR]; exact h.lay
  · rw [List.getElem?_set_self hM]
  · rw [k1 _ (Ne.symm n.RT)]; exact h.tr
  · exact h.trs.stay fun q hq => k1 q fun z => n.Rt (z ▸ hq)
  · rw [k1 _ (Ne.symm n.RN)]; exact h.no
  · exact h.nos.stay fun q hq => k1 q fun z => n.Rn (z ▸ hq)
  · unfold Mx.own
    rw [z]
    simp
/-- an access is counted -/
def Me.tick (m : Me) (th : Nat) (q : Rq) : Me := { m with count := m.count + 1, rows := m.rows ++ [.tup [.int ((m.count : Int) + 1), .int (th : Int), q.val]] }
def Me.acc (m : Me) (th : Nat) (q : Rq) : Val × Me := (.tup [((m.tick th q).res th q).1, .int ((m.count : Int) + 1)], ((m.tick th q).res th q).2)
theorem wf_tick (wf : m.Wf) {th : Nat} {q : Rq} : (m.tick th q).Wf := by
  refine ⟨wf.len, wf.ne, wf.val, fun l hl => Nat.le_succ_of_le (wf.tl l hl), wf.nl, wf.nk, ?_, wf.nc, wf.cb⟩
  show (m.rows ++ _).length ≤ m.count + 1
  rw [List.length_append]
  exact Nat.succ_le_succ wf.rl
theorem wf_set (wf : m.Wf) {l : List Val} (h1 : l ≠ []) (h2 : ∀ v ∈ l, okV v) (h3 : l.length ≤ m.count + 1) : ({ m with trails := m.trails.set c l } : Me).Wf := by
  refine ⟨?_, fun k hk => ?_, fun k hk => ?_, fun k hk => ?_, wf.nl, wf.nk, wf.rl, wf.nc, wf.cb⟩
  · show (m.trails.set c l).length = m.cells
    rw [List.length_set]
    exact wf.len
  · rcases List.mem_or_eq_of_mem_set hk with hk | rfl
    · exact wf.ne k hk
    · exact h1
  · rcases List.mem_or_eq_of_mem_set hk with hk | rfl
    · exact wf.val k hk
    · exact h2
  · rcases List.mem_or_eq_of_mem_set hk with hk | rfl
    · exact wf.tl k hk
    · exact h3
theorem tr_len (wf : m.Wf) (hs : ∀ l ∈ m.trails, l.length ≤ m.count) : (m.tr c).length ≤ m.count := by
  unfold Me.tr
  cases e : m.trails[c]? with
  | none => simp
  | some l => exact hs l (List.mem_of_getElem? e)
theorem tr_val (wf : m.Wf) : ∀ v ∈ m.tr c, okV v := by
  intro v hv
  unfold Me.tr at hv
  cases e : m.trails[c]? with
  | none => rw [e] at hv; cases hv
  | some l =>
    rw [e] at hv
    exact wf.val l (List.mem_of_getElem? e) v hv
theorem wf_give (wf : m.Wf) (hs : ∀ l ∈ m.trails, l.length ≤ m.count) {v : Val} (hv : okV v) : (m.give c v).Wf := by
  have := tr_len (c := c) wf hs
  unfold Me.give
  split
  · exact wf_set wf (by simp) (fun w hw => by
      rcases List.mem_append.mp hw with hw | hw
      · exact tr_val wf w hw
      · rw [List.mem_singleton.mp hw]
        exact hv) (by rw [List.length_append]; exact Nat.succ_le_succ this)
  · exact wf_set wf (by simp) (fun w hw => by rw [List.mem_singleton.mp hw]; exact hv) (by simp)
theorem wf_res (wf : m.Wf) (hs : ∀ l ∈ m.trails, l.length ≤ m.count) {q : Rq} {th : Nat} (hq : q.ok m) : (m.res th q).2.Wf := by
  cases q with
  | read c => exact wf
  | write c v => exact wf_give wf hs hq.2
  | swap c a b =>
    simp only [Me.res]
    split
    · exact wf_give wf hs hq.2.2
    · exact wf
  | decide c v =>
    simp only [Me.res]
    split
    · obtain ⟨_, ⟨h1, _⟩, d, hd⟩ := hq
      refine wf_give wf hs ⟨by simp [h1], .tuple [d, .int m.count], ?_⟩
      show (optAll (toD [] 39) [v, .int (m.count : Int)]).map PyData.tuple = _
      unfold optAll optAll optAll
      rw [hd]
      rfl
    · exact wf
  | flush c =>
    refine ⟨wf.len, wf.ne, wf.val, wf.tl, ?_, fun d hd => ?_, wf.rl, fun d hd => ?_, wf.cb⟩
    · show (m.notes.set _ _).length = m.t
      rw [List.length_set]
      exact wf.nl
    · have hd' : d ∈ m.notes.set th (putL (m.notes[th]?.getD []) (c : Int) (((m.tr c).length : Int) - 1)) := hd
      rcases List.mem_or_eq_of_mem_set hd' with h | rfl
      · exact wf.nk d h
      · refine nodup_putL ?_
        cases e : m.notes[th]? with
        | none => exact List.nodup_nil
        | some d => exact wf.nk d (List.mem_of_getElem? e)
    · have hd' : d ∈ m.notes.set th (putL (m.notes[th]?.getD []) (c : Int) (((m.tr c).length : Int) - 1)) := hd
      rcases List.mem_or_eq_of_mem_set hd' with h | rfl
      · exact wf.nc d h
      · intro k hk
        rw [keys_putL] at hk
        have old : ∀ k ∈ Keys (m.notes[th]?.getD []), ∃ c : Nat, k = (c : Int) ∧ c < m.cells ∧ m.last c = true := fun k hk => by
          cases e : m.notes[th]? with
          | none => rw [e] at hk; cases hk
          | some d =>
            rw [e] at hk
            exact wf.nc d (List.mem_of_getElem? e) k hk
        split at hk
        · exact old k hk
        · rcases List.mem_append.mp hk with hk | hk
          · exact old k hk
          · rw [List.mem_singleton] at hk
            exact ⟨c, hk, hq.1, hq.2⟩
  | fence => exact wf
theorem wf_acc (wf : m.Wf) {q : Rq} {th : Nat} (hq : q.ok m) : (m.acc th q).2.Wf := wf_res (wf_tick wf) (fun l hl => wf.tl l hl) (by cases q <;> exact hq)
theorem s_access (h : MemAt x m G) (wf : m.Wf) (hz : m.count < 100000) {q : Rq} (hq : q.ok m) {th : Nat} (ht : th < m.t) (hnd : ∀ d ∈ m.notes, d.length ≤ 5000) (nf : q ≠ .fence) : ∃ x' G', m_Memory_access [.obj x.M, .int (th : Int), q.val] G = .ok (m.acc th q).1 G' ∧ MemAt x' (m.acc th q).2 G' ∧ Fr x G x' G' := by
  unfold m_Memory_access b_Memory_access
  rw [run_eq (by rfl)]
  have e1 := s_check_request h wf hq ht
  obtain ⟨h1, f1⟩ := h.setCount (m.count + 1)
  have a1 : ∀ ρ : Env1, augV 1 1 (.obj x.M) (eC (.int 1)) ρ G = .next ρ (G.set x.M (Ob.ins 1 [.obj x.L, .int ((m.count : Int) + 1), .obj x.R, .obj x.TR, .obj x.N])) := fun ρ => augV_at h.mem rfl rfl
  have ec : ((m.count + 1 : Nat) : Int) = (m.count : Int) + 1 := by simp
  rw [ec] at h1 f1
  generalize hG1 : G.set x.M (Ob.ins 1 [.obj x.L, .int ((m.count : Int) + 1), .obj x.R, .obj x.TR, .obj x.N]) = G1 at h1 f1 a1
  have c1 := mf_count h1
  simp only [ec] at c1
  obtain ⟨h2, f2⟩ := h1.setRows (m.rows ++ [.tup [.int ((m.count : Int) + 1), .int (th : Int), q.val]])
  have ap : setLst (.obj x.R) (fun l => if l.length < sizeLine then some (l ++ [.tup [.int ((m.count : Int) + 1), .int (th : Int), q.val]]) else none) G1 = some (G1.set x.R (Ob.lst (m.rows ++ [.tup [.int ((m.count : Int) + 1), .int (th : Int), q.val]]))) := setLst_obj h1.rows (if_pos (small_lt (by
    have := wf.rl
    show m.rows.length ≤ 1000000
    omega)))
  generalize hG2 : G1.set x.R (Ob.lst (m.rows ++ [.tup [.int ((m.count : Int) + 1), .int (th : Int), q.val]])) = G2 at h2 f2 ap
  have hq2 : q.ok (m.tick th q) := by cases q <;> exact hq
  obtain ⟨x', G', e2, h3, f3⟩ := s_result (m := m.tick th q) h2 (wf_tick wf) (by show m.count + 1 ≤ 100000; omega) hq2 ht hnd nf
  have c3 := mf_count h3
  have ecnt : (((m.tick th q).res th q).2.count : Int) = (m.count : Int) + 1 := by
    have : ((m.tick th q).res th q).2.count = m.count + 1 := by
      cases q <;> simp only [Me.res] <;> (try split) <;> rfl
    rw [this, ec]
  rw [ecnt, f3.M] at c3
  refine ⟨x', G', ?_, h3, (f1.trans f2).trans f3⟩
  unfold eApp
  simp [methV_1 h.mem, e1, a1, mf_rows h1, h1.rows, c1, ap, methV_1 h2.mem, e2, c3, Me.acc]
end
/-! ### making -/
section
variable {G : Store} {c : Nat}
theorem set_new {o o' : Ob} {J : Store} : (G ++ o :: J).set G.length o' = G ++ o' :: J := by
  rw [List.set_append_right _ _ (Nat.le_refl _), Nat.sub_self]
  rfl
theorem get_new {o : Ob} {J : Store} : (G ++ o :: J)[G.length]? = some o := by simp
theorem s_lay_init {t w r : Int} (t1 : 1 ≤ t) (t3 : t ≤ 3) (w1 : 1 ≤ w) (w4 : w ≤ 4) (r4 : 4 ≤ r) (r2 : r ≤ 200) : m_Layout_init [.obj G.length, .int t, .int w, .int r] (G ++ [.ins 0 []]) = .ok .non (G ++ [.ins 0 [.int t, .int w, .int r]]) := by
  unfold m_Layout_init b_Layout_init
  rw [run_eq (by rfl)]
  have f1 : setFld 0 0 (.obj G.length) (.int t) (G ++ [.ins 0 []]) = some (G ++ [.ins 0 [.int t]]) := by
    rw [setFld_at get_new (by simp), set_new]
    rfl
  have f2 : setFld 0 1 (.obj G.length) (.int w) (G ++ [.ins 0 [.int t]]) = some (G ++ [.ins 0 [.int t, .int w]]) := by
    rw [setFld_at get_new (by simp), set_new]
    rfl
  have f3 : setFld 0 2 (.obj G.length) (.int r) (G ++ [.ins 0 [.int t, .int w]]) = some (G ++ [.ins 0 [.int t, .int w, .int r]]) := by
    rw [setFld_at get_new (by simp), set_new]
    rfl
  simp [s_is_within, t1, t3, w1, w4, r4, r2, f1, f2, f3]
theorem lcF_alloc {p : Pt} {te : EM} {ρ : Env1} {o : Ob} : ∀ (l : List Val) (G : Store), (∀ v ∈ l, ∀ G, ∃ ρ2, ptSet G p v ρ = some ρ2 ∧ te ρ2 G = .ok (.obj G.length) (G ++ [o])) → lcF p tTrue te ρ l G = .ok ((List.range' G.length l.length).map Val.obj) (G ++ List.replicate l.length o)
  | [], G, _ => by
    unfold lcF
    simp
  | v :: l, G, h => by
    obtain ⟨ρ2, e1, e2⟩ := h v (List.mem_cons_self ..) G
    have ih := lcF_alloc l (G ++ [o]) fun w hw => h w (List.mem_cons_of_mem _ hw)
    unfold lcF lcFT
    simp only [e1, tTrue_ok, bind_ok, if_true, e2, ih]
    simp [List.range'_succ, List.replicate_succ]
theorem objs_rep {α : Type} {e : α → Ob} {a : α} : ∀ (n : Nat) (G J : Store), Objs e (G ++ List.replicate n (e a) ++ J) (List.range' G.length n) (List.replicate n a)
  | 0, G, J => trivial
  | n + 1, G, J => by
    have ih := objs_rep (e := e) (a := a) n (G ++ [e a]) J
    rw [List.length_append, List.length_singleton] at ih
    rw [List.range'_succ, List.replicate_succ]
    refine ⟨by simp [List.replicate_succ], ?_⟩
    have e1 : G ++ List.replicate (n + 1) (e a) ++ J = G ++ [e a] ++ List.replicate n (e a) ++ J := by simp [List.replicate_succ]
    rw [List.replicate_succ] at e1
    rw [e1]
    exact ih
/-- the trails alone -/
structure TrAt (TR B : Nat) (ts : List Nat) (trails : List (List Val)) (G : Store) : Prop where
  tr : G[TR]? = some (.lst (ts.map .obj))
  trs : Objs lsO G ts trails
  nd : ts.Nodup
  lo : ∀ j ∈ ts, B ≤ j ∧ j ≠ TR
  bt : B ≤ TR
theorem TrAt.new {TR B : Nat} {ts : List Nat} {trails : List (List Val)} (h : TrAt TR B ts trails G) {l : List Val} (hc : c < ts.length) :
    TrAt TR B (ts.set c G.length) (trails.set c l) ((G ++ [Ob.lst l]).set TR (Ob.lst ((ts.set c G.length).map Val.obj))) ∧ (∀ j, j ≠ TR → j < G.length → ((G ++ [Ob.lst l]).set TR (Ob.lst ((ts.set c G.length).map Val.obj)))[j]? = G[j]?) ∧ ((G ++ [Ob.lst l]).set TR (Ob.lst ((ts.set c G.length).map Val.obj))).length = G.length + 1 ∧
      putA (.obj TR) (.int (c : Int)) (.obj G.length) (G ++ [Ob.lst l]) = some ((G ++ [Ob.lst l]).set TR (Ob.lst ((ts.set c G.length).map Val.obj))) := by
  have hT : TR < G.length := (List.getElem?_eq_some_iff.mp h.tr).1
  have k : ∀ j, j ≠ TR → j < G.length → ((G ++ [Ob.lst l]).set TR (Ob.lst ((ts.set c G.length).map Val.obj)))[j]? = G[j]? := fun j hj hl => by
    rw [List.getElem?_set_ne (Ne.symm hj), List.getElem?_append_left hl]
  refine ⟨⟨?_, ?_, nodup_set h.nd fun z => ?_, fun j hj => ?_, h.bt⟩, k, by simp, ?_⟩
  · rw [List.getElem?_set_self (by rw [List.length_append]; omega)]
  · refine h.trs.new hc (fun q hq => k q (h.lo q hq).2 (h.trs.lt q hq)) ?_
    rw [List.getElem?_set_ne (show TR ≠ G.length by omega)]
    simp
  · have := h.trs.lt _ z
    omega
  · rcases List.mem_or_eq_of_mem_set hj with hj | rfl
    · exact h.lo j hj
    · have := h.bt
      exact ⟨by omega, by omega⟩
  · have h' : (G ++ [Ob.lst l])[TR]? = some (.lst (ts.map .obj)) := by rw [List.getElem?_append_left hT]; exact h.tr
    have p := putA_lst (k := c) (w := .obj G.length) h' (by rw [List.length_map]; exact hc)
    rw [p, List.map_set]
def initStep (t w : Nat) (tr : List (List Val)) (i : Nat) : List (List Val) := (tr.set (1 + 2 * t + i) [.int ((1 + 2 * t + w + i : Nat) : Int)]).set (1 + 2 * t + w + i) [.tup [.str 1, .tup []]]
def initTr (t w r : Nat) : List (List Val) := (List.range' 0 w).foldl (initStep t w) ((List.replicate (1 + 2 * t + w + r) [Val.non]).set 0 [.int 0])
def Me.init (t w r : Nat) : Me := ⟨t, w, r, 0, [], initTr t w r, List.replicate t []⟩
theorem init_loop {t w r : Nat} {M L R TR B : Nat} (hMT : M ≠ TR) (hLT : L ≠ TR) (hRT : R ≠ TR) : ∀ (is : List Nat) (ts : List Nat) (trails : List (List Val)) (o2 : Option Val) (G : Store), (∀ i ∈ is, i < w) → w ≤ r → ts.length = 1 + 2 * t + w + r → TrAt TR B ts trails G → G[M]? = some (.ins 1 [.obj L, .int 0, .obj R, .obj TR]) → LayAt G L t w r →
    ∃ p2 ts' G', forIt (.nm 2) b_Memory_init_l1 (is.map fun (k : Nat) => Val.int (k : Int)) [some (.obj M), some (.obj L), o2, none] G = .next [some (.obj M), some (.obj L), p2, none] G' ∧ TrAt TR B ts' (is.foldl (initStep t w) trails) G' ∧ ts'.length = 1 + 2 * t + w + r ∧ (∀ j, j ≠ TR → j < G.length → G'[j]? = G[j]?) ∧ G.length ≤ G'.length
  | [], ts, trails, o2, G, _, _, hl, h, _, _ => ⟨o2, ts, G, rfl, h, hl, fun _ _ _ => rfl, Nat.le_refl _⟩
  | i :: is, ts, trails, o2, G, hi, hwr, hl, h, hM, hL => by
    have hiw := hi i (List.mem_cons_self ..)
    obtain ⟨a1, a2, a3, a4⟩ := h.new (c := 1 + 2 * t + i) (l := [.int ((1 + 2 * t + w + i : Nat) : Int)]) (by omega)
    generalize hG1 : (G ++ [Ob.lst [.int ((1 + 2 * t + w + i : Nat) : Int)]]).set TR (Ob.lst ((ts.set (1 + 2 * t + i) G.length).map Val.obj)) = G1 at a1 a2 a3 a4
    have hMl : M < G.length := (List.getElem?_eq_some_iff.mp hM).1
    have hLl : L < G.length := (List.getElem?_eq_some_iff.mp hL).1
    have m1 : G1[M]? = some (.ins 1 [.obj L, .int 0, .obj R, .obj TR]) := by rw [a2 M hMT hMl]; exact hM
    have l1 : LayAt G1 L t w r := by
      show _ = _
      rw [a2 L hLT hLl]
      exact hL
    obtain ⟨b1, b2, b3, b4⟩ := a1.new (c := 1 + 2 * t + w + i) (l := [.tup [.str 1, .tup []]]) (by rw [List.length_set]; omega)
    generalize hG2 : (G1 ++ [Ob.lst [.tup [.str 1, .tup []]]]).set TR (Ob.lst (((ts.set (1 + 2 * t + i) G.length).set (1 + 2 * t + w + i) G1.length).map Val.obj)) = G2 at b1 b2 b3 b4
    have m2 : G2[M]? = some (.ins 1 [.obj L, .int 0, .obj R, .obj TR]) := by rw [b2 M hMT (by omega)]; exact m1
    have l2 : LayAt G2 L t w r := by
      show _ = _
      rw [b2 L hLT (by omega)]
      exact l1
    obtain ⟨p2, ts', G', ih, z1, z2, z3, z4⟩ := init_loop hMT hLT hRT is _ _ (some (.int (i : Int))) G2 (fun j hj => hi j (List.mem_cons_of_mem _ hj)) hwr (by rw [List.length_set, List.length_set]; exact hl) b1 m2 l2
    refine ⟨p2, ts', G', ?_, z1, z2, fun j h1 h2 => ?_, by omega⟩
    · rw [List.map_cons, v_forCons, ← ih]
      have f1 : ∀ J : Store, fldV [(1, 3)] (.obj M) (G ++ J) = .ok (.obj TR) (G ++ J) := fun J => fldV_at (by rw [List.getElem?_append_left hMl]; exact hM) rfl
      have hM1l : M < G1.length := by omega
      have f2 : ∀ J : Store, fldV [(1, 3)] (.obj M) (G1 ++ J) = .ok (.obj TR) (G1 ++ J) := fun J => fldV_at (by rw [List.getElem?_append_left hM1l]; exact m1) rfl
      have lJ : ∀ J : Store, LayAt (G ++ J) L t w r := fun J => by
        show _ = _
        rw [List.getElem?_append_left hLl]
        exact hL
      have lJ1 : ∀ J : Store, LayAt (G1 ++ J) L t w r := fun J => by
        show _ = _
        rw [List.getElem?_append_left (by omega)]
        exact l1
      have c1 : (1 + 2 * (t : Int) + (w : Int) + (i : Int)) = ((1 + 2 * t + w + i : Nat) : Int) := by simp
      have c2 : (1 + 2 * (t : Int) + (i : Int)) = ((1 + 2 * t + i : Nat) : Int) := by simp
      unfold b_Memory_init_l1
      simp only [v_seq, v_put, pt_nm, List.set_cons_succ, List.set_cons_zero, e_lst, e_aCons, e_aNil, e_meth, e_var, List.getElem?_cons_succ, List.getElem?_cons_zero, bind_ok, toS_ok, methV_1 hL, s_record hL, c1, mkL_f, List.length_cons, List.length_nil, List.append_nil, e_fld, f1]
      rw [if_pos (small_line (by simp))]
      simp only [toS_ok, f1, methV_1 (lJ _), e_aCons, e_aNil, e_var, List.getElem?_cons_succ, List.getElem?_cons_zero, bind_ok, List.append_nil, s_word (lJ _), c2, a4, then_next]
      simp only [v_put, e_lst, e_aCons, e_aNil, e_tup, e_c, bind_ok, List.length_cons, List.length_nil]
      rw [if_pos (small_line (by simp))]
      simp only [bind_ok]
      rw [if_pos (small_line (by simp))]
      simp only [bind_ok]
      rw [if_pos (small_line (by simp))]
      simp only [mkL_f, toS_ok, e_fld, e_var, List.getElem?_cons_succ, List.getElem?_cons_zero, bind_ok, f2, e_meth, methV_1 (lJ1 _), e_aCons, e_aNil, List.append_nil, s_record (lJ1 _), c1, b4]
    · rw [z3 j h1 (by omega), b2 j h1 (by omega), a2 j h1 h2]
end
section
variable {G : Store}
theorem s_no_notes {t w r : Nat} {M L : Nat} {vs : List Val} (hM : G[M]? = some (.ins 1 (.obj L :: vs))) (hL : LayAt G L t w r) (ht : t ≤ 1000) : m_Memory_no_notes [.obj M] G = .ok (.obj (G.length + t)) (G ++ List.replicate t (Ob.dic []) ++ [Ob.lst ((List.range' G.length t).map Val.obj)]) := by
  unfold m_Memory_no_notes b_Memory_no_notes
  rw [run_eq (by rfl)]
  have f1 : fldV [(1, 0)] (.obj M) G = .ok (.obj L) G := fldV_at hM rfl
  have al := lcF_alloc (p := .nm 1) (te := eDic0 false) (ρ := wipe1 [some (.obj M), none] [1]) (o := Ob.dic []) ((List.range' 0 t).map fun (k : Nat) => Val.int (k : Int)) G (fun v _ G => ⟨_, rfl, by simp⟩)
  rw [List.length_map, List.length_range'] at al
  have e : eLcFR false rng1 (aCons (eFld (eFld (eVar 0) [(1, 0)]) [(0, 0)]) aNil) (.nm 1) tTrue (eDic0 false) [1] [some (.obj M), none] G = .ok (.obj (G.length + t)) (G ++ List.replicate t (Ob.dic []) ++ [Ob.lst ((List.range' G.length t).map Val.obj)]) := by
    unfold eLcFR
    have ha : aCons (eFld (eFld (eVar 0) [(1, 0)]) [(0, 0)]) aNil [some (.obj M), none] G = .ok [.int (t : Int)] G := by simp [f1, lay_t hL]
    rw [ha]
    simp only [bind_ok, rng1_nat (n := t) (by omega)]
    rw [if_pos (small_line (by simp; omega)), al]
    simp only [froR_ok, mkL_f]
    simp
  simp [e]
theorem s_mem_init {t w r : Nat} {L : Nat} (hL : LayAt G L t w r) (ht : 1 ≤ t) (hb : t ≤ 3 ∧ w ≤ 4 ∧ r ≤ 200) (hwr : w ≤ r) : ∃ x G', m_Memory_init [.obj G.length, .obj L] (G ++ [.ins 1 []]) = .ok .non G' ∧ MemAt x (Me.init t w r) G' ∧ x.M = G.length ∧ x.L = L ∧ (∀ j, j < G.length → G'[j]? = G[j]?) ∧ G.length ≤ G'.length ∧ ∀ j ∈ x.own, G.length ≤ j := by
  unfold m_Memory_init b_Memory_init
  rw [run_eq (by rfl)]
  have hLl : L < G.length := (List.getElem?_eq_some_iff.mp hL).1
  have lJ : ∀ J : Store, LayAt (G ++ J) L t w r := fun J => by
    show _ = _
    rw [List.getElem?_append_left hLl]
    exact hL
  generalize hn : 1 + 2 * t + w + r = n
  have f1 : setFld 1 0 (.obj G.length) (.obj L) (G ++ [.ins 1 []]) = some (G ++ [.ins 1 [.obj L]]) := by
    rw [setFld_at get_new (by simp), set_new]
    rfl
  have f2 : setFld 1 1 (.obj G.length) (.int 0) (G ++ [.ins 1 [.obj L]]) = some (G ++ [.ins 1 [.obj L, .int 0]]) := by
    rw [setFld_at get_new (by simp), set_new]
    rfl
  have f3 : setFld 1 2 (.obj G.length) (.obj (G.length + 1)) (G ++ [.ins 1 [.obj L, .int 0], .lst []]) = some (G ++ [.ins 1 [.obj L, .int 0, .obj (G.length + 1)], .lst []]) := by
    rw [setFld_at get_new (by simp), set_new]
    rfl
  let S3 : Store := G ++ [.ins 1 [.obj L, .int 0, .obj (G.length + 1)], .lst []]
  have l3 : S3.length = G.length + 2 := by simp [S3]
  have al := lcF_alloc (p := .nm 3) (te := eLst false (aCons (eC .non) aNil)) (ρ := wipe1 [some (.obj G.length), some (.obj L), none, none] [3]) (o := Ob.lst [.non]) ((List.range' 0 n).map fun (k : Nat) => Val.int (k : Int)) S3 (fun v _ G => ⟨_, rfl, by simp⟩)
  rw [List.length_map, List.length_range'] at al
  let ts0 := List.range' S3.length n
  let TR := S3.length + n
  let S4 : Store := S3 ++ List.replicate n (Ob.lst [.non]) ++ [Ob.lst (ts0.map Val.obj)]
  have e4 : eLcFR false rng1 (aCons (eMeth [(0, m_Layout_cells)] [] (eVar 1) aNil) aNil) (.nm 3) tTrue (eLst false (aCons (eC .non) aNil)) [3] [some (.obj G.length), some (.obj L), none, none] S3 = .ok (.obj TR) S4 := by
    unfold eLcFR
    have ha : aCons (eMeth [(0, m_Layout_cells)] [] (eVar 1) aNil) aNil [some (.obj G.length), some (.obj L), none, none] S3 = .ok [.int (n : Int)] S3 := by
      have hc := s_cells (lJ [.ins 1 [.obj L, .int 0, .obj (G.length + 1)], .lst []])
      have c1 : (1 + 2 * (t : Int) + (w : Int) + (r : Int)) = (n : Int) := by omega
      rw [c1] at hc
      simp only [e_aCons, e_meth, e_var, List.getElem?_cons_succ, List.getElem?_cons_zero, bind_ok, methV_1 (lJ [.ins 1 [.obj L, .int 0, .obj (G.length + 1)], .lst []]), e_aNil, List.append_nil, S3, hc]
    rw [ha]
    simp only [bind_ok, rng1_nat (n := n) (by omega)]
    rw [if_pos (small_line (by simp; omega)), al]
    simp only [froR_ok, mkL_f, S4, ts0, TR]
    simp
  have m4 : S4[G.length]? = some (.ins 1 [.obj L, .int 0, .obj (G.length + 1)]) := by simp [S4, S3]
  let S5 : Store := S4.set G.length (.ins 1 [.obj L, .int 0, .obj (G.length + 1), .obj TR])
  have f4 : setFld 1 3 (.obj G.length) (.obj TR) S4 = some S5 := by
    rw [setFld_at m4 (by simp)]
    rfl
  have l4 : S4.length = G.length + 3 + n := by simp [S4, S3]; omega
  have k5 : ∀ j, j ≠ G.length → S5[j]? = S4[j]? := fun j hj => List.getElem?_set_ne (Ne.symm hj)
  have m5 : S5[G.length]? = some (.ins 1 [.obj L, .int 0, .obj (G.length + 1), .obj TR]) := by
    simp only [S5]
    rw [List.getElem?_set_self (by omega)]
  have L5 : LayAt S5 L t w r := by
    show _ = _
    rw [k5 L (by omega)]
    simp only [S4, S3, List.append_assoc]
    exact lJ _
  have R5 : S5[G.length + 1]? = some (.lst []) := by
    rw [k5 _ (by omega)]
    simp [S4, S3]
  have T5 : TrAt TR (G.length + 2) ts0 (List.replicate n [Val.non]) S5 := by
    refine ⟨?_, ?_, List.nodup_range', fun j hj => ?_, by simp only [TR]; omega⟩
    · rw [k5 _ (by simp only [TR]; omega)]
      simp [S4, TR]
    · refine (objs_rep (e := lsO) (a := [Val.non]) n S3 [Ob.lst (ts0.map Val.obj)]).stay fun o ho => k5 o ?_
      have := List.mem_range'.mp ho
      omega
    · have hj' : j ∈ List.range' S3.length n := hj
      rw [List.mem_range'] at hj'
      simp only [TR]
      omega
  obtain ⟨a1, a2, a3, a4⟩ := T5.new (c := 0) (l := [.int 0]) (by simp [ts0]; omega)
  generalize hS6 : (S5 ++ [Ob.lst [.int 0]]).set TR (Ob.lst ((ts0.set 0 S5.length).map Val.obj)) = S6 at a1 a2 a3 a4
  have l5 : S5.length = S4.length := List.length_set ..
  have m6 : S6[G.length]? = some (.ins 1 [.obj L, .int 0, .obj (G.length + 1), .obj TR]) := by rw [a2 _ (by simp only [TR]; omega) (by omega)]; exact m5
  have L6 : LayAt S6 L t w r := by
    show _ = _
    rw [a2 _ (by simp only [TR]; omega) (by omega)]
    exact L5
  obtain ⟨p2, ts', S7, e7, b1, b2, b3, b4⟩ := init_loop (t := t) (w := w) (r := r) (M := G.length) (L := L) (R := G.length + 1) (by simp only [TR]; omega) (by simp only [TR]; omega) (by simp only [TR]; omega) (List.range' 0 w) _ _ none S6 (fun i hi => by simpa using hi) hwr (by rw [List.length_set]; simp [ts0]; omega) a1 m6 L6
  have m7 : S7[G.length]? = some (.ins 1 [.obj L, .int 0, .obj (G.length + 1), .obj TR]) := by rw [b3 _ (by simp only [TR]; omega) (by omega)]; exact m6
  have L7 : LayAt S7 L t w r := by
    show _ = _
    rw [b3 _ (by simp only [TR]; omega) (by omega)]
    exact L6
  have e8 := s_no_notes m7 L7 (by omega)
  generalize hS8 : S7 ++ List.replicate t (Ob.dic []) ++ [Ob.lst ((List.range' S7.length t).map Val.obj)] = S8 at e8
  have k8 : ∀ j, j < S7.length → S8[j]? = S7[j]? := fun j hj => by rw [← hS8, List.append_assoc, List.getElem?_append_left hj]
  have l8 : S8.length = S7.length + t + 1 := by rw [← hS8]; simp; omega
  have m8 : S8[G.length]? = some (.ins 1 [.obj L, .int 0, .obj (G.length + 1), .obj TR]) := by rw [k8 _ (by omega)]; exact m7
  let S9 : Store := S8.set G.length (.ins 1 [.obj L, .int 0, .obj (G.length + 1), .obj TR, .obj (S7.length + t)])
  have f9 : setFld 1 4 (.obj G.length) (.obj (S7.length + t)) S8 = some S9 := by
    rw [setFld_at m8 (by simp)]
    rfl
  have k9 : ∀ j, j ≠ G.length → S9[j]? = S8[j]? := fun j hj => List.getElem?_set_ne (Ne.symm hj)
  have old : ∀ j, j ≠ TR → j ≠ G.length → j < S5.length → S9[j]? = S5[j]? := fun j h1 h2 h3 => by rw [k9 j h2, k8 j (by omega), b3 j h1 (by omega), a2 j h1 h3]
  have tsl : ∀ j ∈ ts', G.length + 2 ≤ j ∧ j ≠ TR ∧ j < S7.length := fun j hj => ⟨(b1.lo j hj).1, (b1.lo j hj).2, b1.trs.lt j hj⟩
  have TRl : TR < S7.length := (List.getElem?_eq_some_iff.mp b1.tr).1
  have hTR : TR = G.length + 2 + n := by simp only [TR]; omega
  refine ⟨⟨G.length, L, G.length + 1, TR, S7.length + t, ts', List.range' S7.length t⟩, S9, ?_, ⟨?_, ?_, ?_, ?_, ?_, ?_, ?_, ?_⟩, rfl, rfl, fun j hj => ?_, by simp only [S9, List.length_set]; omega, fun j hj => ?_⟩
  · have ep : m_Layout_epoch [.obj L] (S5 ++ [Ob.lst [.int 0]]) = .ok (.int 0) (S5 ++ [Ob.lst [.int 0]]) := by
      unfold m_Layout_epoch b_Layout_epoch
      rw [runT_eq (by rfl)]
      simp [trunc_d0]
    have hM5 : G.length < S5.length := by omega
    have g5 : ∀ J : Store, fldV [(1, 3)] (.obj G.length) (S5 ++ J) = .ok (.obj TR) (S5 ++ J) := fun J => fldV_at (by rw [List.getElem?_append_left hM5]; exact m5) rfl
    have lay5 : ∀ J : Store, LayAt (S5 ++ J) L t w r := fun J => by
      show _ = _
      rw [List.getElem?_append_left (by omega)]
      exact L5
    have rw1 := rng1_nat (n := w) (by omega)
    have s3 : G ++ [Ob.ins 1 [.obj L, .int 0, .obj (G.length + 1)], Ob.lst []] = S3 := rfl
    have a4' : putA (.obj TR) (.int 0) (.obj S5.length) (S5 ++ [Ob.lst [.int 0]]) = some S6 := a4
    simp [f1, f2, f3, s3, e4, f4, g5, methV_1 (lay5 _), ep, a4', lay_w L6, rw1, e7, methV_1 m7, e8, f9]
  · simp only [S9]
    rw [List.getElem?_set_self (by omega)]
    rfl
  · show _ = _
    rw [old L (by omega) (by omega) (by omega)]
    exact L5
  · show S9[G.length + 1]? = _
    rw [old _ (by omega) (by omega) (by omega)]
    exact R5
  · show S9[TR]? = _
    rw [k9 _ (by omega), k8 _ TRl]
    exact b1.tr
  · have : initTr t w r = (List.range' 0 w).foldl (initStep t w) ((List.replicate n [Val.non]).set 0 [.int 0]) := by
      unfold initTr
      rw [hn]
    show Objs lsO S9 ts' (initTr t w r)
    rw [this]
    exact b1.trs.stay fun j hj => by
      obtain ⟨h1, h2, h3⟩ := tsl j hj
      rw [k9 j (by omega), k8 j h3]
  · show S9[S7.length + t]? = _
    rw [k9 _ (by omega), ← hS8]
    simp
  · show Objs dcO S9 (List.range' S7.length t) (List.replicate t [])
    refine (objs_rep (e := dcO) (a := []) t S7 [Ob.lst ((List.range' S7.length t).map Val.obj)]).stay fun o ho => ?_
    have := List.mem_range'.mp ho
    rw [k9 o (by omega), ← hS8]
    rfl
  · show (L :: G.length :: (G.length + 1) :: TR :: (S7.length + t) :: (ts' ++ List.range' S7.length t)).Nodup
    have q1 : ∀ j ∈ List.range' S7.length t, S7.length ≤ j ∧ j < S7.length + t := fun j hj => by
      have := List.mem_range'.mp hj
      omega
    simp only [List.nodup_cons, List.mem_cons, List.mem_append, not_or, List.nodup_append]
    refine ⟨⟨by omega, by omega, by omega, by omega, fun z => ?_, fun z => ?_⟩, ⟨by omega, by omega, by omega, fun z => ?_, fun z => ?_⟩, ⟨by omega, by omega, fun z => ?_, fun z => ?_⟩, ⟨by omega, fun z => (tsl _ z).2.1 rfl, fun z => ?_⟩, ⟨fun z => ?_, fun z => ?_⟩, b1.nd, List.nodup_range', fun a ha b hb e => ?_⟩
    all_goals first
      | (have := tsl _ z; omega)
      | (have := q1 _ z; omega)
      | (have h1 := tsl _ ha; have h2 := q1 _ hb; omega)
  · rw [old j (by omega) (by omega) (by omega), k5 j (by omega)]
    simp only [S4, S3, List.append_assoc]
    rw [List.getElem?_append_left hj]
  · unfold Mx.own at hj
    simp only [List.mem_cons, List.mem_append] at hj
    rcases hj with rfl | rfl | rfl | rfl | hj | hj
    · exact Nat.le_refl _
    · omega
    · omega
    · omega
    · have := tsl j hj
      omega
    · have := List.mem_range'.mp hj
      omega
end
@[simp] theorem e_make {c : Nat} {f : F1} {dv : List Val} {k : AM} {ρ : Env1} {G : Store} : eMake c f dv k ρ G = (k ρ G).bind fun vs G1 => (f (.obj G1.length :: (vs ++ dv)) (G1 ++ [.ins c []])).bind fun v G2 => match v with
  | .non => .ok (.obj G1.length) G2
  | _ => .bad := (rfl)
section
variable {t w r : Nat}
theorem init_len : (initTr t w r).length = 1 + 2 * t + w + r := by
  have key : ∀ (is : List Nat) (tr : List (List Val)), (is.foldl (initStep t w) tr).length = tr.length := by
    intro is
    induction is with
    | nil => intro tr; rfl
    | cons i is ih =>
      intro tr
      rw [List.foldl_cons, ih]
      unfold initStep
      rw [List.length_set, List.length_set]
  unfold initTr
  rw [key, List.length_set, List.length_replicate]
def okT (l : List Val) : Prop := ∃ v, l = [v] ∧ okV v
theorem ok_empty : okV (.tup [.str 1, .tup []]) := ⟨rfl, _, rfl⟩
theorem init_ok : ∀ l ∈ initTr t w r, okT l := by
  have st : ∀ (tr : List (List Val)) (c : Nat) (v : Val), (∀ l ∈ tr, okT l) → okV v → ∀ l ∈ tr.set c [v], okT l := by
    intro tr c v h hv l hl
    rcases List.mem_or_eq_of_mem_set hl with hl | rfl
    · exact h l hl
    · exact ⟨v, rfl, hv⟩
  have key : ∀ (is : List Nat) (tr : List (List Val)), (∀ l ∈ tr, okT l) → ∀ l ∈ is.foldl (initStep t w) tr, okT l := by
    intro is
    induction is with
    | nil => intro tr h; exact h
    | cons i is ih =>
      intro tr h
      rw [List.foldl_cons]
      refine ih _ ?_
      unfold initStep
      exact st _ _ _ (st _ _ _ h ok_int) ok_empty
  unfold initTr
  refine key _ _ (st _ _ _ (fun l hl => ?_) ok_int)
  rw [List.eq_of_mem_replicate hl]
  exact ⟨.non, rfl, ok_non⟩
theorem wf_init (hb : 1 + 2 * t + w + r ≤ 5000) : (Me.init t w r).Wf := by
  refine ⟨init_len, fun l hl => ?_, fun l hl v hv => ?_, fun l hl => ?_, by simp [Me.init], fun d hd => ?_, by simp [Me.init], fun d hd => ?_, hb⟩
  · obtain ⟨v, rfl, _⟩ := init_ok l hl
    simp
  · obtain ⟨u, rfl, h⟩ := init_ok l hl
    rw [List.mem_singleton.mp hv]
    exact h
  · obtain ⟨v, rfl, _⟩ := init_ok l hl
    simp
  · rw [List.eq_of_mem_replicate (show d ∈ List.replicate t ([] : Prs) from hd)]
    exact List.nodup_nil
  · rw [List.eq_of_mem_replicate (show d ∈ List.replicate t ([] : Prs) from hd)]
    intro k hk
    cases hk
end
/-! what a cell holds behind a change -/
section
variable {m : Me} {c d : Nat}
theorem cur_give (wf : m.Wf) (hc : c < m.cells) {v : Val} : (m.give c v).cur d = if d = c then v else m.cur d := by
  have hcl : c < m.trails.length := by rw [wf.len]; exact hc
  unfold Me.give Me.cur
  show ((((m.trails.set c _)[d]?).getD []).getLast?).getD .non = _
  by_cases h : d = c
  · subst h
    rw [if_pos rfl, List.getElem?_set_self hcl]
    split <;> simp
  · rw [if_neg h, List.getElem?_set_ne (Ne.symm h)]
end
/-! ### the law's tape of numbers below 1000 -/
section
variable {G : Store} {ns : List Int} {D : Nat}
theorem tape_l1 {r0 r2 : Option Val} : ∀ (ks : List Nat) (acc : List Int) (v : Int) (o4 : Option Val) (G : Store), acc.length + ks.length ≤ 900000 → (∀ a ∈ acc, 0 ≤ a ∧ a < 1000) → G[D]? = some (.lst (acc.map .int)) →
    ∃ (acc' : List Int) (v' : Int) (p4 : Option Val), forIt (.nm 4) b__law_tape_l1 (ks.map fun (k : Nat) => Val.int (k : Int)) [r0, some (.obj D), r2, some (.int v), o4] G = .next [r0, some (.obj D), r2, some (.int v'), p4] (G.set D (.lst (acc'.map .int))) ∧ (∀ a ∈ acc', 0 ≤ a ∧ a < 1000) ∧ acc'.length ≤ acc.length + ks.length
  | [], acc, v, o4, G, _, ha, hg => ⟨acc, v, o4, by
    obtain ⟨hl, e3⟩ := List.getElem?_eq_some_iff.mp hg
    rw [← e3, List.set_getElem_self]
    rfl, ha, by simp⟩
  | k :: ks, acc, v, o4, G, hl, ha, hg => by
    simp only [List.length_cons] at hl
    have hD : D < G.length := (List.getElem?_eq_some_iff.mp hg).1
    by_cases hv : 0 < v
    · have m1 : ∀ G, fMod (.int v) (.int 1000) G = .ok (.int (v % 1000)) G := fun G => fMod_ii (by decide)
      have d1 : ∀ G, fDiv (.int v) (.int 1000) G = .ok (.int (v / 1000)) G := fun G => fDiv_ii (by decide) (by decide)
      obtain ⟨acc', v', p4, ih, z1, z2⟩ := tape_l1 ks (acc ++ [v % 1000]) (v / 1000) (some (.int (k : Int))) (G.set D (.lst ((acc ++ [v % 1000]).map .int))) (by simp; omega) (fun a h => by
        rcases List.mem_append.mp h with h | h
        · exact ha a h
        · rw [List.mem_singleton.mp h]
          omega) (by rw [List.getElem?_set_self hD])
      rw [List.set_set] at ih
      refine ⟨acc', v', p4, ?_, z1, by simp at z2; simp; omega⟩
      have ap : setLst (.obj D) (fun l => if l.length < sizeLine then some (l ++ [.int (v % 1000)]) else none) G = some (G.set D (.lst ((acc ++ [v % 1000]).map .int))) := by
        rw [List.map_append]
        exact setLst_obj hg (if_pos (small_lt (by rw [List.length_map]; omega)))
      rw [List.map_cons, v_forCons, ← ih]
      unfold b__law_tape_l1 eApp
      simp [hv, hg, m1, d1, ap, -List.map_append]
    · obtain ⟨acc', v', p4, ih, z1, z2⟩ := tape_l1 ks acc v (some (.int (k : Int))) G (by omega) ha hg
      refine ⟨acc', v', p4, ?_, z1, by simp; omega⟩
      rw [List.map_cons, v_forCons, ← ih]
      unfold b__law_tape_l1
      simp [hv]
theorem tape_l2 {r0 : Option Val} {k0 : Nat} : ∀ (ks : List Nat) (acc : List Int) (v : Int) (o4 : Option Val) (G : Store), acc.length + ks.length ≤ 900000 → (∀ a ∈ acc, 0 ≤ a ∧ a < 1000) → G[D]? = some (.lst (acc.map .int)) →
    ∃ (acc' : List Int) (v' : Int) (p4 : Option Val), forIt (.nm 4) b__law_tape_l2 (ks.map fun (k : Nat) => Val.int (k : Int)) [r0, some (.obj D), some (.int (k0 : Int)), some (.int v), o4] G = .next [r0, some (.obj D), some (.int (k0 : Int)), some (.int v'), p4] (G.set D (.lst (acc'.map .int))) ∧ (∀ a ∈ acc', 0 ≤ a ∧ a < 1000) ∧ acc'.length ≤ acc.length + ks.length
  | [], acc, v, o4, G, _, ha, hg => ⟨acc, v, o4, by
    obtain ⟨hl, e3⟩ := List.getElem?_eq_some_iff.mp hg
    rw [← e3, List.set_getElem_self]
    rfl, ha, by simp⟩
  | k :: ks, acc, v, o4, G, hl, ha, hg => by
    simp only [List.length_cons] at hl
    have hD : D < G.length := (List.getElem?_eq_some_iff.mp hg).1
    have k1 : ∀ (a : Int) G, fMul true (.int a) (.int 48271) G = .ok (.int (a * 48271)) G := fun a G => fMul_r (by decide)
    have k2 : ∀ (a : Int) G, fMul true (.int 69621) (.int a) G = .ok (.int (69621 * a)) G := fun a G => fMul_l (by decide)
    have k3 : ∀ (a : Int) G, fMul true (.int 7) (.int a) G = .ok (.int (7 * a)) G := fun a G => fMul_l (by decide)
    have k4 : ∀ (a : Int) G, fMul true (.int a) (.int 16807) G = .ok (.int (a * 16807)) G := fun a G => fMul_r (by decide)
    have m1 : ∀ (a : Int) G, fMod (.int a) (.int 2147483647) G = .ok (.int (a % 2147483647)) G := fun a G => fMod_ii (by decide)
    have m2 : ∀ (a : Int) G, fMod (.int a) (.int 1000) G = .ok (.int (a % 1000)) G := fun a G => fMod_ii (by decide)
    have d1 : ∀ (a : Int) G, fDiv (.int a) (.int 1000) G = .ok (.int (a / 1000)) G := fun a G => fDiv_ii (by decide) (by decide)
    let v1 := (v * 48271 + 69621 * ((k0 : Int) + 1) + 7 * (k : Int)) % 2147483647 * 16807 % 2147483647
    obtain ⟨acc', v', p4, ih, z1, z2⟩ := tape_l2 (k0 := k0) ks (acc ++ [v1 / 1000 % 1000]) v1 (some (.int (k : Int))) (G.set D (.lst ((acc ++ [v1 / 1000 % 1000]).map .int))) (by simp; omega) (fun a h => by
      rcases List.mem_append.mp h with h | h
      · exact ha a h
      · rw [List.mem_singleton.mp h]
        omega) (by rw [List.getElem?_set_self hD])
    rw [List.set_set] at ih
    refine ⟨acc', v', p4, ?_, z1, by simp at z2; simp; omega⟩
    have ap : setLst (.obj D) (fun l => if l.length < sizeLine then some (l ++ [.int (v1 / 1000 % 1000)]) else none) G = some (G.set D (.lst ((acc ++ [v1 / 1000 % 1000]).map .int))) := by
      rw [List.map_append]
      exact setLst_obj hg (if_pos (small_lt (by rw [List.length_map]; omega)))
    rw [List.map_cons, v_forCons, ← ih]
    have ev : (v * 48271 + 69621 * ((k0 : Int) + 1) + 7 * (k : Int)) % 2147483647 * 16807 % 2147483647 = v1 := rfl
    unfold b__law_tape_l2 eApp
    simp [k1, k2, k3, k4, m1, m2, d1, ev, hg, ap, -List.map_append]
theorem tape_l3 : ∀ (ks : List Nat) (acc : List Int) (o2 o3 o4 : Option Val) (G : Store), acc.length + 60 * ks.length ≤ 800000 → (∀ k ∈ ks, k < ns.length) → (∀ a ∈ acc, 0 ≤ a ∧ a < 1000) → G[D]? = some (.lst (acc.map .int)) →
    ∃ (acc' : List Int) (p2 p3 p4 : Option Val), forIt (.nm 2) b__law_tape_l3 (ks.map fun (k : Nat) => Val.int (k : Int)) [some (.scr (ns.map .int)), some (.obj D), o2, o3, o4] G = .next [some (.scr (ns.map .int)), some (.obj D), p2, p3, p4] (G.set D (.lst (acc'.map .int))) ∧ (∀ a ∈ acc', 0 ≤ a ∧ a < 1000) ∧ acc'.length ≤ acc.length + 60 * ks.length
  | [], acc, o2, o3, o4, G, _, _, ha, hg => ⟨acc, o2, o3, o4, by
    obtain ⟨hl, e3⟩ := List.getElem?_eq_some_iff.mp hg
    rw [← e3, List.set_getElem_self]
    rfl, ha, by simp⟩
  | k :: ks, acc, o2, o3, o4, G, hl, hk, ha, hg => by
    simp only [List.length_cons] at hl
    have hD : D < G.length := (List.getElem?_eq_some_iff.mp hg).1
    have hk0 := hk k (List.mem_cons_self ..)
    have x : fIx (.scr (ns.map .int)) (.int (k : Int)) G = .ok (.int ns[k]) G := fIx_at (k := k) rfl (by rw [List.getElem?_map, List.getElem?_eq_getElem hk0]; rfl)
    have p18 : ∀ G, fPow (.int 10) (.int 18) G = .ok (.int 1000000000000000000) G := fun G => rfl
    let v := if ns[k] < 0 then -ns[k] else ns[k]
    have ev : (if ns[k] < 0 then -ns[k] else ns[k]) = v := rfl
    by_cases hv : 1000000000000000000 ≤ v
    · obtain ⟨acc1, v', p4, e1, z1, z2⟩ := tape_l1 (D := D) (r0 := some (.scr (ns.map .int))) (r2 := some (.int (k : Int))) (List.range' 0 60) acc v o4 G (by simp; omega) ha hg
      obtain ⟨acc', q2, q3, q4, ih, y1, y2⟩ := tape_l3 ks acc1 (some (.int (k : Int))) (some (.int v')) p4 (G.set D (.lst (acc1.map .int))) (by simp at z2; omega) (fun j h => hk j (List.mem_cons_of_mem _ h)) z1 (by rw [List.getElem?_set_self hD])
      rw [List.set_set] at ih
      refine ⟨acc', q2, q3, q4, ?_, y1, by simp at z2; simp; omega⟩
      have rg := rng1_nat (n := 60) (by decide)
      have rg' : rng1 [.int 60] = some ((List.range' 0 60).map fun (k : Nat) => Val.int (k : Int)) := rg
      rw [List.map_cons, v_forCons, ← ih]
      unfold b__law_tape_l3
      simp [x, ev, p18, hv, rg', e1, -List.map_map]
    · obtain ⟨acc1, v', p4, e1, z1, z2⟩ := tape_l2 (D := D) (r0 := some (.scr (ns.map .int))) (k0 := k) (List.range' 0 4) acc v o4 G (by simp; omega) ha hg
      obtain ⟨acc', q2, q3, q4, ih, y1, y2⟩ := tape_l3 ks acc1 (some (.int (k : Int))) (some (.int v')) p4 (G.set D (.lst (acc1.map .int))) (by simp at z2; omega) (fun j h => hk j (List.mem_cons_of_mem _ h)) z1 (by rw [List.getElem?_set_self hD])
      rw [List.set_set] at ih
      refine ⟨acc', q2, q3, q4, ?_, y1, by simp at z2; simp; omega⟩
      have rg' : rng1 [.int 4] = some ((List.range' 0 4).map fun (k : Nat) => Val.int (k : Int)) := rng1_nat (n := 4) (by decide)
      rw [List.map_cons, v_forCons, ← ih]
      unfold b__law_tape_l3
      simp [x, ev, p18, hv, rg', e1, -List.map_map]
end
section
variable {G : Store} {ns : List Int}
theorem s_ltape (hns : ns.length ≤ 63) : ∃ tp : List Int, m__law_tape [.scr (ns.map .int)] G = .ok (.fro (tp.map .int)) G ∧ (∀ a ∈ tp, 0 ≤ a ∧ a < 1000) ∧ tp.length ≤ 3780 := by
  unfold m__law_tape b__law_tape
  rw [runT_eq (by rfl)]
  have g : (G ++ [Ob.lst []])[G.length]? = some (.lst (([] : List Int).map .int)) := by simp
  obtain ⟨tp, p2, p3, p4, e, z1, z2⟩ := tape_l3 (ns := ns) (D := G.length) (List.range' 0 ns.length) [] none none none (G ++ [Ob.lst []]) (by simp; omega) (fun k h => by simpa using h) (by simp) g
  have es : (G ++ [Ob.lst []]).set G.length (.lst (tp.map .int)) = G ++ [Ob.lst (tp.map .int)] := by
    rw [List.set_append_right _ _ (Nat.le_refl _), Nat.sub_self]
    rfl
  rw [es] at e
  have rg := rng1_nat (n := ns.length) (by omega)
  refine ⟨tp, ?_, z1, by simp at z2; omega⟩
  simp [rg, e, trunc_l0]
def lat (tp : List Int) (k : Nat) : Int := tp[k]?.getD 0
theorem s_lat {tp : List Int} {k : Nat} : m__law_at [.fro (tp.map .int), .int (k : Int)] G = .ok (.int (lat tp k)) G := by
  unfold m__law_at b__law_at
  rw [runT_eq (by rfl)]
  unfold lat
  by_cases h : k < tp.length
  · have x : fIx (.fro (tp.map .int)) (.int (k : Int)) G = .ok (.int tp[k]) G := fIx_at (k := k) rfl (by rw [List.getElem?_map, List.getElem?_eq_getElem h]; rfl)
    simp [h, x, trunc_d0]
  · simp [h, trunc_d0]
end
/-! ### aside of the memory -/
section
variable {x x' : Mx} {m : Me} {G G' : Store} {j : Nat}
structure Ap (x : Mx) (G : Store) (j : Nat) : Prop where
  lt : j < G.length
  own : j ∉ x.own
  L : j ≠ x.L
theorem Ap.fr (a : Ap x G j) (f : Fr x G x' G') : Ap x' G' j ∧ G'[j]? = G[j]? :=
  ⟨⟨Nat.lt_of_lt_of_le a.lt f.len, fun h => (f.own j h).elim a.own fun z => absurd a.lt (Nat.not_lt.mpr z), by rw [f.L]; exact a.L⟩, f.off j a.lt a.own⟩
theorem Ap.set (a : Ap x G j) {k : Nat} {o : Ob} : Ap x (G.set k o) j := ⟨by rw [List.length_set]; exact a.lt, a.own, a.L⟩
end
/-! ### fence, the trails, cuts -/
section
variable {x : Mx} {m : Me} {G : Store} {c : Nat}
/-- a fence: the notes of a thread -/
def Me.fenceS (d : Prs) (m : Me) (k : Int) : Me := m.shorten k.toNat ((lookA d k).getD 0)
def Me.fence (m : Me) (th : Nat) : Me := (sortI (Keys (m.notes[th]?.getD []))).foldl (Me.fenceS (m.notes[th]?.getD [])) { m with notes := m.notes.set th [] }
end
/-! ### a thread's store -/
structure Sto where
  L : Nat
  th : Nat
  spare : List Int
  out : List Int
  del : List (Int × List Int)
def rowV (q : Int × List Int) : Val := .tup [.int q.1, .fro (q.2.map .int)]
abbrev stoOb (s : Sto) (D : Nat) : Ob := .ins 5 [.obj s.L, .int (s.th : Int), .fro (s.spare.map .int), .fro (s.out.map .int), .obj D]
structure StoAt (G : Store) (S D : Nat) (s : Sto) : Prop where
  ins : G[S]? = some (stoOb s D)
  del : G[D]? = some (.lst (s.del.map rowV))
  ne : S ≠ D
section
variable {G G' : Store} {S D : Nat} {s : Sto} {cs : List Int}
theorem StoAt.ltS (h : StoAt G S D s) : S < G.length := (List.getElem?_eq_some_iff.mp h.ins).1
theorem StoAt.ltD (h : StoAt G S D s) : D < G.length := (List.getElem?_eq_some_iff.mp h.del).1
theorem StoAt.stay (h : StoAt G S D s) (k : ∀ j, j = S ∨ j = D → G'[j]? = G[j]?) : StoAt G' S D s := ⟨by rw [k S (.inl rfl)]; exact h.ins, by rw [k D (.inr rfl)]; exact h.del, h.ne⟩
theorem StoAt.app (h : StoAt G S D s) {J : Store} : StoAt (G ++ J) S D s := h.stay fun j hj => by
  rw [List.getElem?_append_left]
  rcases hj with rfl | rfl
  · exact h.ltS
  · exact h.ltD
theorem StoAt.put (h : StoAt G S D s) (s' : Sto) (e : s'.del = s.del) : StoAt (G.set S (stoOb s' D)) S D s' :=
  ⟨by rw [List.getElem?_set_self h.ltS], by rw [List.getElem?_set_ne h.ne, e]; exact h.del, h.ne⟩
theorem st_lay (h : StoAt G S D s) : fldV [(5, 0), (1, 0)] (.obj S) G = .ok (.obj s.L) G := fldV_at h.ins rfl
theorem st_th (h : StoAt G S D s) : fldV [(5, 1)] (.obj S) G = .ok (.int (s.th : Int)) G := fldV_at h.ins rfl
theorem st_sp (h : StoAt G S D s) : fldV [(5, 2)] (.obj S) G = .ok (.fro (s.spare.map .int)) G := fldV_at h.ins rfl
theorem st_ou (h : StoAt G S D s) : fldV [(5, 3)] (.obj S) G = .ok (.fro (s.out.map .int)) G := fldV_at h.ins rfl
theorem st_de (h : StoAt G S D s) : fldV [(5, 4)] (.obj S) G = .ok (.obj D) G := fldV_at h.ins rfl
theorem dat_ints : dat (.fro (cs.map .int)) = true := by
  rw [dat_fro, datL_iff]
  intro v hv
  obtain ⟨k, _, rfl⟩ := List.mem_map.mp hv
  rfl
theorem st_free (h : StoAt G S D s) : m_Store_free_cells [.obj S] G = .ok (.fro (s.spare.map .int)) G := by
  unfold m_Store_free_cells b_Store_free_cells
  rw [runT_eq (by rfl)]
  have hd := dat_ints (cs := s.spare)
  simp [st_sp h, trunc_d0, hd, -dat_fro]
theorem sf5 {p : Nat} {vs : List Val} {v : Val} {c : Nat} (h : G[S]? = some (.ins c vs)) (hp : p < vs.length) : setFld c p (.obj S) v G = some (G.set S (.ins c (vs.set p v))) := by
  rw [setFld_at h (Nat.le_of_lt hp), if_pos hp]
theorem st_take (h : StoAt G S D s) {n : Nat} (hn : n ≤ s.spare.length) : m_Store_take [.obj S, .int (n : Int)] G = .ok (.fro ((s.spare.take n).map .int)) (G.set S (stoOb { s with spare := s.spare.drop n } D)) := by
  unfold m_Store_take b_Store_take
  rw [run_eq (by rfl)]
  have g : ¬ ((s.spare.length : Int) < (n : Int)) := by omega
  have e := sf5 (p := 2) (v := .fro ((s.spare.drop n).map .int)) h.ins (show 2 < 5 by decide)
  simp only [List.set_cons_succ, List.set_cons_zero, List.map_drop] at e
  have t1 : fSl true (.fro (s.spare.map .int)) none (some (n : Int)) G = .ok (.fro ((s.spare.map .int).take n)) G := by rw [fSl_take]; rfl
  have t2 : fSl true (.fro (s.spare.map .int)) (some (n : Int)) none G = .ok (.fro ((s.spare.map .int).drop n)) G := by rw [fSl_drop]; rfl
  simp [st_sp h, g, t1, t2, e, stoOb, List.map_drop]
theorem fAdd_ints {a b : List Int} (h : a.length + b.length ≤ 1000000) : fAdd true (.fro (a.map .int)) (.fro (b.map .int)) G = .ok (.fro ((a ++ b).map .int)) G := by
  rw [fAdd_ff (by simpa using h), List.map_append]
  rfl
theorem st_take_out (h : StoAt G S D s) (hl : s.out.length + cs.length ≤ 1000000) : m_Store_take_out [.obj S, .fro (cs.map .int)] G = .ok .non (G.set S (stoOb { s with out := s.out ++ cs } D)) := by
  unfold m_Store_take_out b_Store_take_out
  rw [run_eq (by rfl)]
  have e := sf5 (p := 3) (v := .fro ((s.out ++ cs).map .int)) h.ins (show 3 < 5 by decide)
  simp only [List.set_cons_succ, List.set_cons_zero] at e
  have a := fAdd_ints (G := G) hl
  simp [st_ou h, a, e, -List.map_append]
def Sto.back (s : Sto) (cs : List Int) : Sto := { s with spare := sortI (s.spare ++ cs) }
/-- what waits, told -/
def waitV (s : Sto) : List Val := s.del.map rowV ++ (if s.out = [] then [] else [.tup [.non, .fro (s.out.map .int)]])
theorem dat_row {q : Int × List Int} : dat (rowV q) = true := by
  unfold rowV
  rw [dat_tup, datL_cons, datL_cons, dat_ints]
  rfl
theorem st_waiting (h : StoAt G S D s) (hl : s.del.length ≤ 100000) : m_Store_waiting [.obj S] G = .ok (.fro (waitV s)) G := by
  unfold m_Store_waiting b_Store_waiting
  rw [runT_eq (by rfl)]
  have cp : ∀ ρ : Env1, ρ[0]? = some (some (.obj S)) → ρ.length = 4 → eLcF false (eFld (eVar 0) [(5, 4)]) (.tup [2, 3]) tTrue (eTup (aCons (eVar 2) (aCons (eCall (bListA true) (aCons (eVar 3) aNil)) aNil))) [2, 3] ρ G = .ok (.obj G.length) (G ++ [.lst (s.del.map rowV)]) := fun ρ h0 hρ => by
    have hs : ∀ J, StoAt (G ++ J) S D s := fun J => h.app
    rw [eLcF_obj1 s.del rowV (by simp [h0, st_de h]) h.del (by omega) fun q hq => ?_]
    · rfl
    · have l2 : 2 < ρ.length := by omega
      have l3 : 3 < ρ.length := by omega
      refine ⟨_, rfl, ?_⟩
      have e2 : (((wipe1 ρ [2, 3]).set 2 (some (.int q.1))).set 3 (some (.fro (q.2.map .int))))[2]? = some (some (.int q.1)) := by
        rw [List.getElem?_set_ne (by decide), List.getElem?_set_self (by simp [wipe1]; omega)]
      have e3 : (((wipe1 ρ [2, 3]).set 2 (some (.int q.1))).set 3 (some (.fro (q.2.map .int))))[3]? = some (some (.fro (q.2.map .int))) := by
        rw [List.getElem?_set_self (by simp [wipe1]; omega)]
      simp [e2, e3, rowV]
  have dw : datL1 (waitV s) = true := by
    unfold waitV
    rw [datL_app, Bool.and_eq_true_iff]
    refine ⟨datL_iff.mpr fun v hv => ?_, ?_⟩
    · obtain ⟨q, _, rfl⟩ := List.mem_map.mp hv
      exact dat_row
    · split
      · rfl
      · rw [datL_cons, dat_tup, datL_cons, datL_cons, dat_ints]
        rfl
  by_cases ho : s.out = []
  · have e : waitV s = s.del.map rowV := by unfold waitV; rw [if_pos ho, List.append_nil]
    rw [e] at dw ⊢
    have ou := st_ou (h.app (J := [.lst (s.del.map rowV)]))
    rw [ho] at ou
    simp [cp, ou, trunc_l0, dw]
  · have e : waitV s = s.del.map rowV ++ [.tup [.non, .fro (s.out.map .int)]] := by unfold waitV; rw [if_neg ho]
    rw [e] at dw ⊢
    have ou := st_ou (h.app (J := [.lst (s.del.map rowV)]))
    have hne : (s.out.map Val.int).isEmpty = false := by
      cases hs : s.out with
      | nil => exact absurd hs ho
      | cons a l => rfl
    have ap : setLst (.obj G.length) (fun l => if l.length < sizeLine then some (l ++ [.tup [.non, .fro (s.out.map .int)]]) else none) (G ++ [.lst (s.del.map rowV)]) = some (G ++ [.lst (s.del.map rowV ++ [.tup [.non, .fro (s.out.map .int)]])]) := by
      rw [setLst_obj (l := s.del.map rowV) (by simp) (if_pos (small_lt (by rw [List.length_map]; omega)))]
      rw [List.set_append_right _ _ (Nat.le_refl _), Nat.sub_self]
      rfl
    unfold eApp
    simp [cp, ou, hne, ap, trunc_l0, dw, -List.isEmpty_map]
def Sto.stamp (s : Sto) (e : Int) : Sto := { s with del := s.del ++ [(e, s.out)], out := [] }
theorem st_stamp (h : StoAt G S D s) (hl : s.del.length ≤ 100000) {e : Int} : ∃ G', m_Store_stamp [.obj S, .int e] G = .ok .non G' ∧ StoAt G' S D (s.stamp e) ∧ G'.length = G.length ∧ ∀ j, j ≠ S → j ≠ D → G'[j]? = G[j]? := by
  have ap : setLst (.obj D) (fun l => if l.length < sizeLine then some (l ++ [.tup [.int e, .fro (s.out.map .int)]]) else none) G = some (G.set D (.lst (s.del.map rowV ++ [.tup [.int e, .fro (s.out.map .int)]]))) := setLst_obj h.del (if_pos (small_lt (by rw [List.length_map]; omega)))
  have h1 : (G.set D (.lst (s.del.map rowV ++ [.tup [.int e, .fro (s.out.map .int)]])))[S]? = some (stoOb s D) := by rw [List.getElem?_set_ne (Ne.symm h.ne)]; exact h.ins
  have e1 := sf5 (p := 3) (v := .fro []) h1 (show 3 < 5 by decide)
  simp only [List.set_cons_succ, List.set_cons_zero] at e1
  refine ⟨(G.set D (.lst (s.del.map rowV ++ [.tup [.int e, .fro (s.out.map .int)]]))).set S (stoOb (s.stamp e) D), ?_, ⟨?_, ?_, h.ne⟩, ?_, fun j hS hD => ?_⟩
  rotate_left
  · rw [List.getElem?_set_self (by rw [List.length_set]; exact h.ltS)]
  · rw [List.getElem?_set_ne h.ne, List.getElem?_set_self h.ltD]
    show _ = some (Ob.lst ((s.del ++ [(e, s.out)]).map rowV))
    rw [List.map_append]
    rfl
  · rw [List.length_set, List.length_set]
  · rw [List.getElem?_set_ne (Ne.symm hS), List.getElem?_set_ne (Ne.symm hD)]
  · unfold m_Store_stamp b_Store_stamp eApp
    rw [run_eq (by rfl)]
    simp [st_de h, h.del, st_ou h, ap, e1]
    rfl
end
section
variable {G G' : Store} {S D W : Nat} {s : Sto} {cs : List Int} {e : Int}
def relStep (e : Int) (p : Sto × List (Int × List Int)) (q : Int × List Int) : Sto × List (Int × List Int) := if q.1 ≤ e - 3 then (p.1.back q.2, p.2) else (p.1, p.2 ++ [q])
def Sto.release (s : Sto) (e : Int) : Sto := { (s.del.foldl (relStep e) (s, [])).1 with del := (s.del.foldl (relStep e) (s, [])).2 }
def totD : List (Int × List Int) → Nat
  | [] => 0
  | q :: l => q.2.length + totD l
theorem rel_keep : ∀ (l : List (Int × List Int)) (p : Sto × List (Int × List Int)), (l.foldl (relStep e) p).1.L = p.1.L ∧ (l.foldl (relStep e) p).1.th = p.1.th ∧ (l.foldl (relStep e) p).1.out = p.1.out ∧ (l.foldl (relStep e) p).1.del = p.1.del
  | [], p => ⟨rfl, rfl, rfl, rfl⟩
  | q :: l, p => by
    rw [List.foldl_cons]
    obtain ⟨a, b, c, d⟩ := rel_keep l (relStep e p q)
    have : (relStep e p q).1.L = p.1.L ∧ (relStep e p q).1.th = p.1.th ∧ (relStep e p q).1.out = p.1.out ∧ (relStep e p q).1.del = p.1.del := by
      unfold relStep
      split <;> exact ⟨rfl, rfl, rfl, rfl⟩
    exact ⟨a.trans this.1, b.trans this.2.1, c.trans this.2.2.1, d.trans this.2.2.2⟩
theorem rel_loop {del : List (Int × List Int)} (hSD : S ≠ D) (hSW : S ≠ W) (hDW : D ≠ W) (hdl : del.length ≤ 100000) : ∀ (fuel : List Val) (k : Nat) (s' : Sto) (acc : List (Int × List Int)) (G : Store) (o3 o4 : Option Val), fuel.length + k = del.length → G[S]? = some (stoOb s' D) → G[D]? = some (.lst (del.map rowV)) → G[W]? = some (.lst (acc.map rowV)) → s'.spare.length + totD (del.drop k) ≤ 1000000 → acc.length ≤ k →
    ∃ p3 p4 G', forOb (.tup [3, 4]) b_Store_release_l1 D fuel k [some (.obj S), some (.int e), some (.obj W), o3, o4] G = .next [some (.obj S), some (.int e), some (.obj W), p3, p4] G' ∧ G'[S]? = some (stoOb ((del.drop k).foldl (relStep e) (s', acc)).1 D) ∧ G'[D]? = some (.lst (del.map rowV)) ∧ G'[W]? = some (.lst (((del.drop k).foldl (relStep e) (s', acc)).2.map rowV)) ∧ G'.length = G.length ∧ ∀ j, j ≠ S → j ≠ W → G'[j]? = G[j]?
  | [], k, s', acc, G, o3, o4, hk, h1, h2, h3, _, _ => by
    simp at hk
    refine ⟨o3, o4, G, ?_, by rw [List.drop_of_length_le (by omega)]; exact h1, h2, by rw [List.drop_of_length_le (by omega)]; exact h3, rfl, fun _ _ _ => rfl⟩
    unfold forOb
    simp only [h2, List.length_map]
    rw [if_pos (by omega)]
  | y :: fuel, k, s', acc, G, o3, o4, hk, h1, h2, h3, hb, ha => by
    simp only [List.length_cons] at hk
    have hkl : k < del.length := by omega
    have hd := List.drop_eq_getElem_cons hkl
    rw [hd] at hb ⊢
    simp only [totD] at hb
    have lS := (List.getElem?_eq_some_iff.mp h1).1
    have lW := (List.getElem?_eq_some_iff.mp h3).1
    have gk : (del.map rowV)[k]? = some (rowV del[k]) := by rw [List.getElem?_map, List.getElem?_eq_getElem hkl]; rfl
    generalize hq : del[k] = q at hb gk ⊢
    by_cases hle : q.1 ≤ e - 3
    · have st : StoAt (G.set D (.lst (s'.del.map rowV))) S D s' := ⟨by rw [List.getElem?_set_ne (Ne.symm hSD)]; exact h1, by rw [List.getElem?_set_self (List.getElem?_eq_some_iff.mp h2).1], hSD⟩
      have gb : m_Store_give_back [.obj S, .fro (q.2.map .int)] G = .ok .non (G.set S (stoOb (s'.back q.2) D)) := by
        unfold m_Store_give_back b_Store_give_back
        rw [run_eq (by rfl)]
        have f2 : fldV [(5, 2)] (.obj S) G = .ok (.fro (s'.spare.map .int)) G := fldV_at h1 rfl
        have e1 := sf5 (p := 2) (v := .fro ((sortI (s'.spare ++ q.2)).map .int)) h1 (show 2 < 5 by decide)
        simp only [List.set_cons_succ, List.set_cons_zero] at e1
        have a := fAdd_ints (G := G) (a := s'.spare) (b := q.2) (by omega)
        have so := bSortX_ints (G := G) (v := .fro ((s'.spare ++ q.2).map .int)) (ns := s'.spare ++ q.2) rfl
        simp [f2, a, so, e1, -List.map_append]
        rfl
      obtain ⟨p3, p4, G', ih, z1, z2, z3, z4, z5⟩ := rel_loop hSD hSW hDW hdl fuel (k + 1) (s'.back q.2) acc (G.set S (stoOb (s'.back q.2) D)) (some (.int q.1)) (some (.fro (q.2.map .int))) (by omega) (by rw [List.getElem?_set_self lS]) (by rw [List.getElem?_set_ne hSD]; exact h2) (by rw [List.getElem?_set_ne hSW]; exact h3) (by
        show (sortI (s'.spare ++ q.2)).length + _ ≤ _
        rw [(sortI_perm _).length_eq, List.length_append]
        omega) (by omega)
      have es : relStep e (s', acc) q = (s'.back q.2, acc) := if_pos hle
      refine ⟨p3, p4, G', ?_, by rw [List.foldl_cons, es]; exact z1, z2, by rw [List.foldl_cons, es]; exact z3, by rw [z4, List.length_set], fun j a b => by rw [z5 j a b, List.getElem?_set_ne (Ne.symm a)]⟩
      have eb : b_Store_release_l1 [some (.obj S), some (.int e), some (.obj W), some (.int q.1), some (.fro (q.2.map .int))] G = .next [some (.obj S), some (.int e), some (.obj W), some (.int q.1), some (.fro (q.2.map .int))] (G.set S (stoOb (s'.back q.2) D)) := by
        unfold b_Store_release_l1
        simp [hle, methV_1 h1, gb]
      unfold forOb
      simp only [h2, gk]
      unfold turn1 rowV
      simp only [pt_tup, setAll_cons, setAll_nil, List.set_cons_succ, List.set_cons_zero]
      rw [eb]
      exact ih
    · have ap : setLst (.obj W) (fun l => if l.length < sizeLine then some (l ++ [.tup [.int q.1, .fro (q.2.map .int)]]) else none) G = some (G.set W (.lst ((acc ++ [q]).map rowV))) := by
        rw [setLst_obj h3 (if_pos (small_lt (by rw [List.length_map]; omega))), List.map_append]
        rfl
      obtain ⟨p3, p4, G', ih, z1, z2, z3, z4, z5⟩ := rel_loop hSD hSW hDW hdl fuel (k + 1) s' (acc ++ [q]) (G.set W (.lst ((acc ++ [q]).map rowV))) (some (.int q.1)) (some (.fro (q.2.map .int))) (by omega) (by rw [List.getElem?_set_ne (Ne.symm hSW)]; exact h1) (by rw [List.getElem?_set_ne (Ne.symm hDW)]; exact h2) (by rw [List.getElem?_set_self lW]) (by omega) (by rw [List.length_append]; simp; omega)
      have es : relStep e (s', acc) q = (s', acc ++ [q]) := if_neg hle
      refine ⟨p3, p4, G', ?_, by rw [List.foldl_cons, es]; exact z1, z2, by rw [List.foldl_cons, es]; exact z3, by rw [z4, List.length_set], fun j a b => by rw [z5 j a b, List.getElem?_set_ne (Ne.symm b)]⟩
      have eb : b_Store_release_l1 [some (.obj S), some (.int e), some (.obj W), some (.int q.1), some (.fro (q.2.map .int))] G = .next [some (.obj S), some (.int e), some (.obj W), some (.int q.1), some (.fro (q.2.map .int))] (G.set W (.lst ((acc ++ [q]).map rowV))) := by
        unfold b_Store_release_l1 eApp
        simp [hle, h3, ap, -List.map_append]
      unfold forOb
      simp only [h2, gk]
      unfold turn1 rowV
      simp only [pt_tup, setAll_cons, setAll_nil, List.set_cons_succ, List.set_cons_zero]
      rw [eb]
      exact ih
theorem st_release (h : StoAt G S D s) (hl : s.del.length ≤ 100000) (hb : s.spare.length + totD s.del ≤ 1000000) : ∃ G', m_Store_release [.obj S, .int e] G = .ok .non G' ∧ StoAt G' S G.length (s.release e) ∧ G'.length = G.length + 1 ∧ ∀ j, j < G.length → j ≠ S → G'[j]? = G[j]? := by
  have lS := h.ltS
  have lD := h.ltD
  have hA := h.app (J := [.lst []])
  obtain ⟨p3, p4, G1, lo, z1, z2, z3, z4, z5⟩ := rel_loop (e := e) (W := G.length) (del := s.del) h.ne (by omega) (by omega) hl (s.del.map rowV) 0 s [] (G ++ [.lst []]) none none (by simp) hA.ins hA.del (by simp) (by simpa using hb) (Nat.le_refl _)
  rw [List.drop_zero] at z1 z3
  obtain ⟨k1, k2, k3, k4⟩ := rel_keep (e := e) s.del (s, [])
  have lG1 : G1.length = G.length + 1 := by rw [z4]; simp
  have e1 := sf5 (p := 4) (v := .obj G.length) z1 (show 4 < 5 by decide)
  simp only [List.set_cons_succ, List.set_cons_zero] at e1
  refine ⟨G1.set S (stoOb (s.release e) G.length), ?_, ⟨by rw [List.getElem?_set_self (by omega)], by rw [List.getElem?_set_ne (by omega)]; exact z3, by omega⟩, by rw [List.length_set]; exact lG1, fun j a b => ?_⟩
  · unfold m_Store_release b_Store_release
    rw [run_eq (by rfl)]
    have fd : fldV [(5, 4)] (.obj S) (G ++ [.lst []]) = .ok (.obj D) (G ++ [.lst []]) := st_de hA
    have gd := hA.del
    simp [fd, gd, lo, e1]
    rfl
  · rw [List.getElem?_set_ne (Ne.symm b), z5 j b (by omega), List.getElem?_append_left a]
/-! made -/
theorem st_init {L th : Nat} {cs : List Int} : m_Store_init [.obj G.length, .obj L, .int (th : Int), .fro (cs.map .int)] (G ++ [.ins 5 []]) = .ok .non (G ++ [stoOb ⟨L, th, sortI cs, [], []⟩ (G.length + 1), .lst []]) := by
  unfold m_Store_init b_Store_init
  rw [run_eq (by rfl)]
  have f1 : setFld 5 0 (.obj G.length) (.obj L) (G ++ [.ins 5 []]) = some (G ++ [.ins 5 [.obj L]]) := by
    rw [setFld_at get_new (by simp), set_new]
    rfl
  have f2 : setFld 5 1 (.obj G.length) (.int (th : Int)) (G ++ [.ins 5 [.obj L]]) = some (G ++ [.ins 5 [.obj L, .int (th : Int)]]) := by
    rw [setFld_at get_new (by simp), set_new]
    rfl
  have f3 : setFld 5 2 (.obj G.length) (.fro ((sortI cs).map .int)) (G ++ [.ins 5 [.obj L, .int (th : Int)]]) = some (G ++ [.ins 5 [.obj L, .int (th : Int), .fro ((sortI cs).map .int)]]) := by
    rw [setFld_at get_new (by simp), set_new]
    rfl
  have f4 : setFld 5 3 (.obj G.length) (.fro []) (G ++ [.ins 5 [.obj L, .int (th : Int), .fro ((sortI cs).map .int)]]) = some (G ++ [.ins 5 [.obj L, .int (th : Int), .fro ((sortI cs).map .int), .fro []]]) := by
    rw [setFld_at get_new (by simp), set_new]
    rfl
  have f5 : setFld 5 4 (.obj G.length) (.obj (G.length + 1)) (G ++ [.ins 5 [.obj L, .int (th : Int), .fro ((sortI cs).map .int), .fro []], .lst []]) = some (G ++ [.ins 5 [.obj L, .int (th : Int), .fro ((sortI cs).map .int), .fro [], .obj (G.length + 1)], .lst []]) := by
    rw [setFld_at get_new (by simp), set_new]
    rfl
  have so := fun G => bSortX_ints (G := G) (v := .fro (cs.map .int)) (ns := cs) rfl
  simp [f1, f2, so, f3, f4, f5]
end
noncomputable def reqTb : List (Nat × F1) := [(6, m_Entering_request), (7, m_Leaving_request)]
noncomputable def accTb : List (Nat × F1) := [(6, m_Entering_accept), (7, m_Leaving_accept)]
/-! ### stacks of machines -/
section
variable {G G1 G2 G3 : Store} {K ML S T M c n : Nat} {ms vs : List Val} {res v : Val} {fq fa : F1}
theorem v_whileK {t : TM} {b : SM} {n : Nat} {ρ : Env1} : sWhile t b (n + 1) ρ G = (t ρ G).toS fun k G1 => if k = true then (match b ρ G1 with
      | .next ρ' G' => sWhile t b n ρ' G'
      | .cont ρ' G' => sWhile t b n ρ' G'
      | .brk ρ' G' => .next ρ' G'
      | r => r) else .next ρ G1 := rfl
abbrev StkAt (G : Store) (K ML : Nat) (ms : List Val) (res : Val) : Prop := G[K]? = some (.ins 3 [.obj ML, res]) ∧ G[ML]? = some (.lst ms)
theorem truth_lst {l : List Val} {o : Nat} (h : G[o]? = some (.lst l)) : truth G (.obj o) = some (!l.isEmpty) := by
  unfold truth
  simp only [h]
noncomputable def setl (K n : Nat) (o : Option Val) (G : Store) : SR := sWhile (eTruth (eFld (eVar 0) [(3, 0)])) b_Stack_settle_l1 n [some (.obj K), o] G
theorem settle_eq : m_Stack_settle [.obj K] G = fin (setl K 1000 none G) := by
  unfold m_Stack_settle b_Stack_settle
  rw [run_eq (by rfl)]
  rfl
theorem setl_empty {o : Option Val} (h : StkAt G K ML [] res) : setl K (n + 1) o G = .next [some (.obj K), o] G := by
  unfold setl
  rw [v_whileK]
  have f0 : fldV [(3, 0)] (.obj K) G = .ok (.obj ML) G := fldV_at h.1 rfl
  simp [f0, truth_lst h.2]
theorem l1_eq : b_Stack_settle_l1 = sSeq (sSet 1 (eMeth reqTb [] (eOp fIx (eFld (eVar 0) [(3, 0)]) (eNeg (eC (.int 1)))) aNil)) (sIf (eTest (eOp fEqA (eOp fIx (eVar 1) (eC (.int 0))) (eC (.str 19)))) (sEx (eApp (eFld (eVar 0) [(3, 0)]) (eOp fIx (eVar 1) (eC (.int 1))))) (sIf (eTest (eOp fEqA (eOp fIx (eVar 1) (eC (.int 0))) (eC (.str 14)))) (sSeq (sEx (ePop (eFld (eVar 0) [(3, 0)]))) (sEx (eMeth [(3, m_Stack_pass_on)] [] (eVar 0) (aCons (eOp fIx (eVar 1) (eC (.int 1))) aNil)))) sRetN)) := rfl
theorem ms_ne (h : ms.getLast? = some v) : ms.isEmpty = false := by
  cases ms with
  | nil => cases h
  | cons a l => rfl
/-- the topmost machine wants an access -/
theorem setl_acc {o : Option Val} {k : Nat} {l : List Val} (h : StkAt G K ML ms res) (ht : ms.getLast? = some (.obj S)) (hS : G[S]? = some (.ins c vs)) (hq : reqTb.lookup c = some fq) (e : fq [.obj S] G = .ok (.tup (.str k :: l)) G) (k1 : k ≠ 19) (k2 : k ≠ 14) : setl K (n + 1) o G = .ret .non G := by
  unfold setl
  rw [v_whileK, l1_eq]
  have f0 : fldV [(3, 0)] (.obj K) G = .ok (.obj ML) G := fldV_at h.1 rfl
  have la := fIx_last h.2 ht
  have ne := ms_ne ht
  simp [f0, truth_lst h.2, ne, la, methV_at hS hq, e, k1, k2]
theorem settle_acc {k : Nat} {l : List Val} (h : StkAt G K ML ms res) (ht : ms.getLast? = some (.obj S)) (hS : G[S]? = some (.ins c vs)) (hq : reqTb.lookup c = some fq) (e : fq [.obj S] G = .ok (.tup (.str k :: l)) G) (k1 : k ≠ 19) (k2 : k ≠ 14) : m_Stack_settle [.obj K] G = .ok .non G := by
  rw [settle_eq, show (1000 : Nat) = 999 + 1 from rfl, setl_acc h ht hS hq e k1 k2]
  rfl
theorem settle_none (h : StkAt G K ML [] res) : m_Stack_settle [.obj K] G = .ok .non G := by
  rw [settle_eq, show (1000 : Nat) = 999 + 1 from rfl, setl_empty h]
  rfl
/-- the first machine ends -/
theorem setl_end0 {o : Option Val} (hne : K ≠ ML) (h : StkAt G K ML [.obj S] res) (hS : G[S]? = some (.ins c vs)) (hq : reqTb.lookup c = some fq) (e : fq [.obj S] G = .ok (.tup [.str 14, v]) G) : ∃ o', setl K (n + 1) o G = setl K n o' ((G.set ML (.lst [])).set K (.ins 3 [.obj ML, v])) := by
  refine ⟨some (.tup [.str 14, v]), ?_⟩
  have hK : K < G.length := (List.getElem?_eq_some_iff.mp h.1).1
  have hM : ML < G.length := (List.getElem?_eq_some_iff.mp h.2).1
  have f0 : fldV [(3, 0)] (.obj K) G = .ok (.obj ML) G := fldV_at h.1 rfl
  have la := fIx_last h.2 (v := .obj S) rfl
  have g1 : (G.set ML (.lst []))[K]? = some (.ins 3 [.obj ML, res]) := by rw [List.getElem?_set_ne (Ne.symm hne)]; exact h.1
  have g2 : (G.set ML (.lst []))[ML]? = some (.lst []) := by rw [List.getElem?_set_self hM]
  have po : m_Stack_pass_on [.obj K, v] (G.set ML (.lst [])) = .ok .non ((G.set ML (.lst [])).set K (.ins 3 [.obj ML, v])) := by
    unfold m_Stack_pass_on b_Stack_pass_on
    rw [run_eq (by rfl)]
    have f1 : fldV [(3, 0)] (.obj K) (G.set ML (.lst [])) = .ok (.obj ML) (G.set ML (.lst [])) := fldV_at g1 rfl
    have sf : setFld 3 1 (.obj K) v (G.set ML (.lst [])) = some ((G.set ML (.lst [])).set K (.ins 3 [.obj ML, v])) := by
      rw [setFld_at g1 (by simp)]
      rfl
    simp [f1, truth_lst g2, sf]
  have pp : ∀ ρ : Env1, ρ[0]? = some (some (.obj K)) → ePop (eFld (eVar 0) [(3, 0)]) ρ G = .ok (.obj S) (G.set ML (.lst [])) := fun ρ hρ => by
    unfold ePop
    simp [hρ, f0, h.2]
  unfold setl
  rw [v_whileK]
  have eb : b_Stack_settle_l1 [some (.obj K), o] G = .next [some (.obj K), some (.tup [.str 14, v])] ((G.set ML (.lst [])).set K (.ins 3 [.obj ML, v])) := by
    rw [l1_eq]
    simp [f0, la, methV_at hS hq, e, pp, methV_1 g1, po]
  simp [f0, truth_lst h.2, eb]
theorem settle_end0 (hne : K ≠ ML) (h : StkAt G K ML [.obj S] res) (hS : G[S]? = some (.ins c vs)) (hq : reqTb.lookup c = some fq) (e : fq [.obj S] G = .ok (.tup [.str 14, v]) G) : m_Stack_settle [.obj K] G = .ok .non ((G.set ML (.lst [])).set K (.ins 3 [.obj ML, v])) := by
  have hK : K < G.length := (List.getElem?_eq_some_iff.mp h.1).1
  have hM : ML < G.length := (List.getElem?_eq_some_iff.mp h.2).1
  obtain ⟨o', e1⟩ := setl_end0 (n := 999) (o := none) hne h hS hq e
  have h2 : StkAt ((G.set ML (.lst [])).set K (.ins 3 [.obj ML, v])) K ML [] v := ⟨by rw [List.getElem?_set_self (by rw [List.length_set]; exact hK)], by rw [List.getElem?_set_ne hne, List.getElem?_set_self hM]⟩
  rw [settle_eq, show (1000 : Nat) = 999 + 1 from rfl, e1, show (999 : Nat) = 998 + 1 from rfl, setl_empty h2]
  rfl
/-! a step -/
theorem step_eq : b_Stack_step = sSeq (sEx (eMeth [(3, m_Stack_settle)] [] (eVar 0) aNil)) (sSeq (sIf (tNot1 (eTruth (eFld (eVar 0) [(3, 0)]))) (sRet (eC (.bl false))) sPass) (sSeq (sSet 3 (eOp fIx (eFld (eVar 0) [(3, 0)]) (eNeg (eC (.int 1))))) (sSeq (sEx (eMeth accTb [] (eVar 3) (aCons (eMeth [(1, m_Memory_access)] [] (eVar 1) (aCons (eVar 2) (aCons (eMeth reqTb [] (eVar 3) aNil) aNil))) aNil))) (sSeq (sEx (eMeth [(3, m_Stack_settle)] [] (eVar 0) aNil)) (sRet (eC (.bl true))))))) := rfl
theorem step_none {th : Val} {mv : Val} (h : StkAt G1 K ML [] res) (h0 : G[K]? = some (.ins 3 vs)) (es : m_Stack_settle [.obj K] G = .ok .non G1) : m_Stack_step [.obj K, mv, th] G = .ok (.bl false) G1 := by
  unfold m_Stack_step
  rw [run_eq (by rfl), step_eq]
  have f0 : fldV [(3, 0)] (.obj K) G1 = .ok (.obj ML) G1 := fldV_at h.1 rfl
  simp [methV_1 h0, es, f0, truth_lst h.2]
theorem step_of {th rq u : Val} {mvs vs2 vs0 : List Val} (h0 : G[K]? = some (.ins 3 vs0)) (es : m_Stack_settle [.obj K] G = .ok .non G1) (h : StkAt G1 K ML ms res) (ht : ms.getLast? = some (.obj S)) (hS : G1[S]? = some (.ins c vs)) (hq : reqTb.lookup c = some fq) (ha : accTb.lookup c = some fa) (e1 : fq [.obj S] G1 = .ok rq G1) (hM : G1[M]? = some (.ins 1 mvs)) (e2 : m_Memory_access [.obj M, th, rq] G1 = .ok u G2) (e3 : fa [.obj S, u] G2 = .ok v G3) (h3 : G3[K]? = some (.ins 3 vs2)) {G4 : Store} (es2 : m_Stack_settle [.obj K] G3 = .ok .non G4) : m_Stack_step [.obj K, .obj M, th] G = .ok (.bl true) G4 := by
  unfold m_Stack_step
  rw [run_eq (by rfl), step_eq]
  have f0 : fldV [(3, 0)] (.obj K) G1 = .ok (.obj ML) G1 := fldV_at h.1 rfl
  have la := fIx_last h.2 ht
  have ne := ms_ne ht
  simp [methV_1 h0, es, f0, truth_lst h.2, ne, la, methV_at hS ha, methV_1 hM, methV_at hS hq, e1, e2, e3, methV_1 h3, es2]
theorem stk_init {v : Val} : m_Stack_init [.obj G.length, v] (G ++ [.ins 3 []]) = .ok .non (G ++ [.ins 3 [.obj (G.length + 1), .non], .lst [v]]) := by
  unfold m_Stack_init b_Stack_init
  rw [run_eq (by rfl)]
  have f1 : setFld 3 0 (.obj G.length) (.obj (G.length + 1)) (G ++ [.ins 3 [], .lst [v]]) = some (G ++ [.ins 3 [.obj (G.length + 1)], .lst [v]]) := by
    rw [setFld_at get_new (by simp), set_new]
    rfl
  have f2 : setFld 3 1 (.obj G.length) .non (G ++ [.ins 3 [.obj (G.length + 1)], .lst [v]]) = some (G ++ [.ins 3 [.obj (G.length + 1), .non], .lst [v]]) := by
    rw [setFld_at get_new (by simp), set_new]
    rfl
  simp [f1, f2]
theorem stk_ended (s : StkAt G K ML ms res) : m_Stack_ended [.obj K] G = .ok (.bl (decide (ms = []))) G := by
  unfold m_Stack_ended b_Stack_ended
  rw [runT_eq (by rfl)]
  have f0 : fldV [(3, 0)] (.obj K) G = .ok (.obj ML) G := fldV_at s.1 rfl
  have e : decide ((ms.length : Int) = 0) = decide (ms = []) := by
    rw [decide_eq_decide]
    cases ms with
    | nil => simp
    | cons a l => simp; omega
  simp [f0, bLen_obj s.2, trunc_d0, e]
end
/-! ### entering and leaving -/
section
variable {G : Store} {S S0 D L slot st n : Nat} {s : Sto} {ep v : Val} {others : List Int} {t w r : Int} {e : Int}
theorem s_epoch : m_Layout_epoch [.obj L] G = .ok (.int 0) G := by
  unfold m_Layout_epoch b_Layout_epoch
  rw [runT_eq (by rfl)]
  simp [trunc_d0]
theorem s_epoch_slot {i : Int} : m_Layout_epoch_slot [.obj L, .int i] G = .ok (.int (1 + i)) G := by
  unfold m_Layout_epoch_slot b_Layout_epoch_slot
  rw [runT_eq (by rfl)]
  simp [trunc_d0]
abbrev enOb (slot st : Nat) (ep : Val) : Ob := .ins 6 [.int 0, .int (slot : Int), .str st, ep]
abbrev EnAt (G : Store) (S slot st : Nat) (ep : Val) : Prop := G[S]? = some (enOb slot st ep)
theorem en_init (h : StoAt G S0 D s) (hL : LayAt G s.L t w r) : m_Entering_init [.obj G.length, .obj S0] (G ++ [.ins 6 []]) = .ok .non (G ++ [enOb (1 + s.th) 2 .non]) := by
  unfold m_Entering_init b_Entering_init
  rw [run_eq (by rfl)]
  have lJ : ∀ J : Store, LayAt (G ++ J) s.L t w r := fun J => by
    show _ = _
    rw [List.getElem?_append_left (List.getElem?_eq_some_iff.mp hL).1]
    exact hL
  have sJ : ∀ J : Store, StoAt (G ++ J) S0 D s := fun J => h.app
  have c1 : (1 + (s.th : Int)) = ((1 + s.th : Nat) : Int) := by simp
  have f1 : setFld 6 0 (.obj G.length) (.int 0) (G ++ [.ins 6 []]) = some (G ++ [.ins 6 [.int 0]]) := by
    rw [setFld_at get_new (by simp), set_new]
    rfl
  have f2 : setFld 6 1 (.obj G.length) (.int ((1 + s.th : Nat) : Int)) (G ++ [.ins 6 [.int 0]]) = some (G ++ [.ins 6 [.int 0, .int ((1 + s.th : Nat) : Int)]]) := by
    rw [setFld_at get_new (by simp), set_new]
    rfl
  have f3 : setFld 6 2 (.obj G.length) (.str 2) (G ++ [.ins 6 [.int 0, .int ((1 + s.th : Nat) : Int)]]) = some (G ++ [.ins 6 [.int 0, .int ((1 + s.th : Nat) : Int), .str 2]]) := by
    rw [setFld_at get_new (by simp), set_new]
    rfl
  have f4 : setFld 6 3 (.obj G.length) .non (G ++ [.ins 6 [.int 0, .int ((1 + s.th : Nat) : Int), .str 2]]) = some (G ++ [.ins 6 [.int 0, .int ((1 + s.th : Nat) : Int), .str 2, .non]]) := by
    rw [setFld_at get_new (by simp), set_new]
    rfl
  simp [st_lay (sJ _), methV_1 (lJ _), s_epoch, f1, s_epoch_slot, st_th (sJ _), c1, f2, f3, f4, -Int.natCast_add]
theorem en_read (h : EnAt G S slot st ep) (hst : st = 2 ∨ st = 27) (hd : dat ep = true) : m_Entering_request [.obj S] G = .ok (.tup [.str 2, .int 0]) G := by
  unfold m_Entering_request b_Entering_request
  rw [runT_eq (by rfl)]
  have f0 : fldV [(6, 0)] (.obj S) G = .ok (.int 0) G := fldV_at h rfl
  have f2 : fldV [(6, 2)] (.obj S) G = .ok (.str st) G := fldV_at h rfl
  rcases hst with rfl | rfl <;> simp [f0, f2, trunc_d0]
theorem en_write (h : EnAt G S slot 3 ep) (hd : dat ep = true) : m_Entering_request [.obj S] G = .ok (.tup [.str 3, .int (slot : Int), ep]) G := by
  unfold m_Entering_request b_Entering_request
  rw [runT_eq (by rfl)]
  have f1 : fldV [(6, 1)] (.obj S) G = .ok (.int (slot : Int)) G := fldV_at h rfl
  have f2 : fldV [(6, 2)] (.obj S) G = .ok (.str 3) G := fldV_at h rfl
  have f3 : fldV [(6, 3)] (.obj S) G = .ok ep G := fldV_at h rfl
  simp [f1, f2, f3, trunc_d0, hd]
theorem en_end (h : EnAt G S slot 14 ep) (hd : dat ep = true) : m_Entering_request [.obj S] G = .ok (.tup [.str 14, ep]) G := by
  unfold m_Entering_request b_Entering_request
  rw [runT_eq (by rfl)]
  have f2 : fldV [(6, 2)] (.obj S) G = .ok (.str 14) G := fldV_at h rfl
  have f3 : fldV [(6, 3)] (.obj S) G = .ok ep G := fldV_at h rfl
  simp [f2, f3, trunc_d0, hd]
theorem en_acc_write {u : Val} (h : EnAt G S slot 3 ep) : m_Entering_accept [.obj S, u] G = .ok .non (G.set S (enOb slot 27 ep)) := by
  unfold m_Entering_accept b_Entering_accept
  rw [run_eq (by rfl)]
  have f2 : fldV [(6, 2)] (.obj S) G = .ok (.str 3) G := fldV_at h rfl
  have e2 := sf5 (p := 2) (v := .str 27) h (show 2 < 4 by decide)
  simp only [List.set_cons_succ, List.set_cons_zero] at e2
  simp [f2, e2]
theorem en_acc_read {x u : Val} (h : EnAt G S slot 2 ep) : m_Entering_accept [.obj S, .tup [x, u]] G = .ok .non (G.set S (enOb slot 3 x)) := by
  unfold m_Entering_accept b_Entering_accept
  rw [run_eq (by rfl)]
  have lS := (List.getElem?_eq_some_iff.mp h).1
  have f2 : fldV [(6, 2)] (.obj S) G = .ok (.str 2) G := fldV_at h rfl
  have e3 := sf5 (p := 3) (v := x) h (show 3 < 4 by decide)
  have h2 : (G.set S (.ins 6 [.int 0, .int (slot : Int), .str 2, x]))[S]? = some (.ins 6 [.int 0, .int (slot : Int), .str 2, x]) := by rw [List.getElem?_set_self lS]
  have e2 := sf5 (p := 2) (v := .str 3) h2 (show 2 < 4 by decide)
  rw [List.set_set] at e2
  simp only [List.set_cons_succ, List.set_cons_zero] at e2 e3
  simp [f2, e3, e2]
theorem en_acc_again {a b : Int} {u : Val} (h : EnAt G S slot 27 (.int b)) : m_Entering_accept [.obj S, .tup [.int a, u]] G = .ok .non (G.set S (if a = b then enOb slot 14 (.int b) else enOb slot 3 (.int a))) := by
  unfold m_Entering_accept b_Entering_accept
  rw [run_eq (by rfl)]
  have lS := (List.getElem?_eq_some_iff.mp h).1
  have f2 : fldV [(6, 2)] (.obj S) G = .ok (.str 27) G := fldV_at h rfl
  have f3 : fldV [(6, 3)] (.obj S) G = .ok (.int b) G := fldV_at h rfl
  by_cases hab : a = b
  · have e2 := sf5 (p := 2) (v := .str 14) h (show 2 < 4 by decide)
    simp only [List.set_cons_succ, List.set_cons_zero] at e2
    rw [if_pos hab]
    simp [f2, f3, hab, e2]
  · have e3 := sf5 (p := 3) (v := .int a) h (show 3 < 4 by decide)
    have h2 : (G.set S (.ins 6 [.int 0, .int (slot : Int), .str 27, .int a]))[S]? = some (.ins 6 [.int 0, .int (slot : Int), .str 27, .int a]) := by rw [List.getElem?_set_self lS]
    have e2 := sf5 (p := 2) (v := .str 3) h2 (show 2 < 4 by decide)
    rw [List.set_set] at e2
    simp only [List.set_cons_succ, List.set_cons_zero] at e2 e3
    rw [if_neg hab]
    simp [f2, f3, hab, e3, e2]
/-! leaving -/
abbrev lvOb (S0 : Nat) (ep : Val) (others : List Int) (st : Nat) : Ob := .ins 7 [.obj S0, ep, .fro (others.map .int), .str st]
abbrev LvAt (G : Store) (S S0 : Nat) (ep : Val) (others : List Int) (st : Nat) : Prop := G[S]? = some (lvOb S0 ep others st)
def othersOf (t th : Nat) : List Int := ((List.range' 0 t).map fun (k : Nat) => (k : Int)).filter fun k => decide (k ≠ (th : Int))
theorem lv_init {t w r : Nat} (h : StoAt G S0 D s) (hL : LayAt G s.L t w r) (ht : t ≤ 1000) : m_Leaving_init [.obj G.length, .obj S0] (G ++ [.ins 7 []]) = .ok .non (G ++ [lvOb S0 .non (othersOf t s.th) (if s.out = [] then 28 else 30)]) := by
  unfold m_Leaving_init b_Leaving_init
  rw [run_eq (by rfl)]
  have lJ : ∀ J : Store, LayAt (G ++ J) s.L t w r := fun J => by
    show _ = _
    rw [List.getElem?_append_left (List.getElem?_eq_some_iff.mp hL).1]
    exact hL
  have sJ : ∀ J : Store, StoAt (G ++ J) S0 D s := fun J => h.app
  have f1 : setFld 7 0 (.obj G.length) (.obj S0) (G ++ [.ins 7 []]) = some (G ++ [.ins 7 [.obj S0]]) := by
    rw [setFld_at get_new (by simp), set_new]
    rfl
  have f2 : setFld 7 1 (.obj G.length) .non (G ++ [.ins 7 [.obj S0]]) = some (G ++ [.ins 7 [.obj S0, .non]]) := by
    rw [setFld_at get_new (by simp), set_new]
    rfl
  have f3 : setFld 7 2 (.obj G.length) (.fro ((othersOf t s.th).map .int)) (G ++ [.ins 7 [.obj S0, .non]]) = some (G ++ [.ins 7 [.obj S0, .non, .fro ((othersOf t s.th).map .int)]]) := by
    rw [setFld_at get_new (by simp), set_new]
    rfl
  have f4 : setFld 7 3 (.obj G.length) (.str 28) (G ++ [.ins 7 [.obj S0, .non, .fro ((othersOf t s.th).map .int)]]) = some (G ++ [lvOb S0 .non (othersOf t s.th) 28]) := by
    rw [setFld_at get_new (by simp), set_new]
    rfl
  have f5 : setFld 7 3 (.obj G.length) (.str 30) (G ++ [lvOb S0 .non (othersOf t s.th) 28]) = some (G ++ [lvOb S0 .non (othersOf t s.th) 30]) := by
    rw [setFld_at get_new (by simp), set_new]
    rfl
  have cp : ∀ (G : Store) (ρ : Env1), StoAt G S0 D s → LayAt G s.L t w r → ρ[1]? = some (some (.obj S0)) → ρ.length = 3 → eLcFR true rng1 (aCons (eFld (eFld (eVar 1) [(5, 0), (1, 0)]) [(0, 0)]) aNil) (.nm 2) (eTest (eOp fNeA (eVar 2) (eFld (eVar 1) [(5, 1)]))) (eVar 2) [2] ρ G = .ok (.fro ((othersOf t s.th).map .int)) G := fun G ρ hs hl h1 hρ => by
    rw [eLcFR_of (vs := [.int (t : Int)]) (l := (List.range' 0 t).map fun (k : Nat) => Val.int (k : Int)) (f := fun v => match v with | .int k => decide (k ≠ (s.th : Int)) | _ => false) (g := fun v => v)]
    · rw [mkL_t, List.map_id']
      unfold othersOf
      have : (List.range' 0 t).map (fun (k : Nat) => Val.int (k : Int)) = ((List.range' 0 t).map fun (k : Nat) => (k : Int)).map Val.int := by rw [List.map_map]; rfl
      rw [this, List.filter_map]
      rfl
    · simp [h1, st_lay hs, lay_t hl]
    · exact rng1_nat (by omega)
    · simp; omega
    · intro v hv
      obtain ⟨k, hk, rfl⟩ := List.mem_map.mp hv
      have e1 : ((wipe1 ρ [2]).set 2 (some (.int (k : Int))))[1]? = some (some (.obj S0)) := by rw [List.getElem?_set_ne (by decide)]; simp [wipe1, h1]
      have e2 : ((wipe1 ρ [2]).set 2 (some (.int (k : Int))))[2]? = some (some (.int (k : Int))) := by rw [List.getElem?_set_self (by simp [wipe1]; omega)]
      refine ⟨_, rfl, ?_, fun _ => by simp [e2]⟩
      simp [e1, e2, st_th hs]
  by_cases ho : s.out = []
  · rw [if_pos ho]
    have ou := st_ou (sJ [lvOb S0 .non (othersOf t s.th) 28])
    rw [ho] at ou
    simp [f1, f2, cp _ _ (sJ _) (lJ _), f3, f4, ou]
  · rw [if_neg ho]
    have ou := st_ou (sJ [lvOb S0 .non (othersOf t s.th) 28])
    have hne : (s.out.map Val.int).isEmpty = false := by
      cases hs : s.out with
      | nil => exact absurd hs ho
      | cons a l => rfl
    simp [f1, f2, cp _ _ (sJ _) (lJ _), f3, f4, ou, hne, f5, -List.isEmpty_map]
theorem lv_fs (h : LvAt G S S0 ep others st) : fldV [(7, 0)] (.obj S) G = .ok (.obj S0) G ∧ fldV [(7, 1)] (.obj S) G = .ok ep G ∧ fldV [(7, 2)] (.obj S) G = .ok (.fro (others.map .int)) G ∧ fldV [(7, 3)] (.obj S) G = .ok (.str st) G := ⟨fldV_at h rfl, fldV_at h rfl, fldV_at h rfl, fldV_at h rfl⟩
/-- what leaving wants next -/
def lvReq (s : Sto) (ep : Val) (others : List Int) (st : Nat) : Val :=
  if st = 30 ∨ st = 32 then .tup [.str 2, .int 0] else if st = 28 then .tup [.str 3, .int ((1 + s.th : Nat) : Int), .non] else if st = 31 then .tup [.str 2, .int (1 + others.headD 0)] else if st = 29 then .tup [.str 4, .int 0, ep, match ep with | .int e => .int (e + 1) | v => v] else .tup [.str 14, .non]
theorem lv_request (h : LvAt G S S0 ep others st) (hs : StoAt G S0 D s) (hL : LayAt G s.L t w r) (hst : st = 30 ∨ st = 32 ∨ st = 28 ∨ (st = 31 ∧ others ≠ []) ∨ (st = 29 ∧ ∃ e, ep = .int e) ∨ st = 14) : m_Leaving_request [.obj S] G = .ok (lvReq s ep others st) G := by
  unfold m_Leaving_request b_Leaving_request
  rw [runT_eq (by rfl)]
  obtain ⟨f0, f1, f2, f3⟩ := lv_fs h
  have c1 : (1 + (s.th : Int)) = ((1 + s.th : Nat) : Int) := by simp
  rcases hst with rfl | rfl | rfl | ⟨rfl, ho⟩ | ⟨rfl, e, rfl⟩ | rfl
  · simp [f0, st_lay hs, f3, methV_1 hL, s_epoch, trunc_d0, lvReq]
  · simp [f0, st_lay hs, f3, methV_1 hL, s_epoch, trunc_d0, lvReq]
  · simp [f0, st_lay hs, f3, methV_1 hL, s_epoch_slot, st_th hs, trunc_d0, lvReq]
  · obtain ⟨a, l, rfl⟩ := List.exists_cons_of_ne_nil ho
    simp [f0, f2, st_lay hs, f3, methV_1 hL, s_epoch_slot, trunc_d0, lvReq]
  · simp [f0, f1, st_lay hs, f3, methV_1 hL, s_epoch, trunc_d0, lvReq]
  · simp [f0, st_lay hs, f3, trunc_d0, lvReq]
theorem lv_set3 (h : LvAt G S S0 ep others st) {k : Nat} : setFld 7 3 (.obj S) (.str k) G = some (G.set S (lvOb S0 ep others k)) := by
  have e := sf5 (p := 3) (v := .str k) h (show 3 < 4 by decide)
  simpa only [List.set_cons_succ, List.set_cons_zero] using e
theorem lv_look_on (h : LvAt G S S0 ep others st) : m_Leaving_look_on [.obj S] G = .ok .non (G.set S (lvOb S0 ep others (if others = [] then 29 else 31))) := by
  unfold m_Leaving_look_on b_Leaving_look_on
  rw [run_eq (by rfl)]
  have lS := (List.getElem?_eq_some_iff.mp h).1
  have h2 : LvAt (G.set S (lvOb S0 ep others 29)) S S0 ep others 29 := by
    show _ = _
    rw [List.getElem?_set_self lS]
  obtain ⟨f0, f1, f2, f3⟩ := lv_fs h2
  have e1 := lv_set3 h (k := 29)
  have e2 := lv_set3 h2 (k := 31)
  rw [List.set_set] at e2
  cases ho : others with
  | nil =>
    subst ho
    simp [e1, f2]
  | cons a l =>
    subst ho
    simp only [List.map_cons] at f2
    simp [e1, f2, e2]
theorem lv_finish (h : LvAt G S S0 ep others st) (hs : StoAt G S0 D s) (hS : S ≠ S0) (hl : s.del.length ≤ 100000) (hb : s.spare.length + totD s.del ≤ 1000000) : ∃ G', m_Leaving_finish [.obj S, .int e] G = .ok .non G' ∧ LvAt G' S S0 ep others 14 ∧ StoAt G' S0 G.length (s.release e) ∧ G'.length = G.length + 1 ∧ ∀ j, j < G.length → j ≠ S → j ≠ S0 → G'[j]? = G[j]? := by
  have lS := (List.getElem?_eq_some_iff.mp h).1
  obtain ⟨f0, f1, f2, f3⟩ := lv_fs h
  obtain ⟨G1, e1, z1, z2, z3⟩ := st_release hs hl hb (e := e)
  have h1 : LvAt G1 S S0 ep others st := by
    show _ = _
    rw [z3 S lS hS]
    exact h
  have e3 := lv_set3 h1 (k := 14)
  refine ⟨G1.set S (lvOb S0 ep others 14), ?_, ?_, z1.stay fun j hj => ?_, by rw [List.length_set]; exact z2, fun j a b c => ?_⟩
  rotate_left
  · show _ = _
    rw [List.getElem?_set_self (by omega)]
  · rw [List.getElem?_set_ne]
    rcases hj with rfl | rfl
    · exact hS
    · omega
  · rw [List.getElem?_set_ne (Ne.symm b), z3 j a c]
  · unfold m_Leaving_finish b_Leaving_finish
    rw [run_eq (by rfl)]
    simp [f0, methV_1 hs.ins, e1, e3]
end
section
variable {G : Store} {S S0 D st : Nat} {s : Sto} {ep v u : Val} {others : List Int}
def intOf (v : Val) : Int := match v with
  | .int i => i
  | .bl true => 1
  | _ => 0
/-- where leaving goes on, by what it was told -/
noncomputable def lvNext (s : Sto) (ep : Val) (others : List Int) (st : Nat) (v : Val) : Sto × Val × List Int × Nat :=
  if st = 30 then (s.stamp (intOf v), ep, others, 28)
  else if st = 28 then (s, ep, others, if s.del = [] then 14 else 32)
  else if st = 32 then (s, v, others, if others = [] then 29 else 31)
  else if st = 31 then (if v ≠ .non ∧ v ≠ ep then (s.release (intOf ep), ep, others, 14) else (s, ep, others.tail, if others.tail = [] then 29 else 31))
  else (s.release (intOf ep + intOf v), ep, others, 14)
/-- what leaving may be told -/
def LvOk (ep : Val) (others : List Int) (st : Nat) (v : Val) : Prop :=
  (st = 30 ∧ ∃ i, v = .int i) ∨ st = 28 ∨ (st = 32 ∧ ∃ i, v = .int i) ∨ (st = 31 ∧ others ≠ [] ∧ (∃ i, ep = .int i) ∧ (v = .non ∨ ∃ i, v = .int i)) ∨ (st = 29 ∧ (∃ i, ep = .int i) ∧ ∃ b, v = .bl b)
theorem lv_accept (h : LvAt G S S0 ep others st) (hs : StoAt G S0 D s) (hS : S ≠ S0) (hD : S ≠ D) (hl : s.del.length < 100000) (hb : s.spare.length + totD s.del ≤ 1000000) (ok : LvOk ep others st v) :
    ∃ G' D', m_Leaving_accept [.obj S, .tup [v, u]] G = .ok .non G' ∧ LvAt G' S S0 (lvNext s ep others st v).2.1 (lvNext s ep others st v).2.2.1 (lvNext s ep others st v).2.2.2 ∧ StoAt G' S0 D' (lvNext s ep others st v).1 ∧ G.length ≤ G'.length ∧ (D' = D ∨ G.length ≤ D') ∧ ∀ j, j < G.length → j ≠ S → j ≠ S0 → j ≠ D → G'[j]? = G[j]? := by
  obtain ⟨f0, f1, f2, f3⟩ := lv_fs h
  have lS := (List.getElem?_eq_some_iff.mp h).1
  unfold m_Leaving_accept
  rw [run_eq (by rfl)]
  rcases ok with ⟨rfl, i, rfl⟩ | rfl | ⟨rfl, i, rfl⟩ | ⟨rfl, ho, ⟨e, rfl⟩, hv⟩ | ⟨rfl, ⟨e, rfl⟩, b, rfl⟩
  · obtain ⟨G1, e1, z1, z2, z3⟩ := st_stamp hs (by omega) (e := i)
    have h1 : LvAt G1 S S0 ep others 30 := by
      show _ = _
      rw [z3 S hS hD]
      exact h
    have e3 := lv_set3 h1 (k := 28)
    refine ⟨G1.set S (lvOb S0 ep others 28), D, ?_, ?_, z1.stay fun j hj => ?_, by rw [List.length_set]; omega, .inl rfl, fun j a b c d => ?_⟩
    · unfold b_Leaving_accept
      simp [f3, f0, methV_1 hs.ins, e1, e3]
    · show (G1.set S (lvOb S0 ep others 28))[S]? = _
      rw [List.getElem?_set_self (by omega)]
      rfl
    · rw [List.getElem?_set_ne]
      rcases hj with rfl | rfl
      · exact hS
      · exact hD
    · rw [List.getElem?_set_ne (Ne.symm b), z3 j c d]
  · have h1 : LvAt (G.set S (lvOb S0 ep others 14)) S S0 ep others 14 := by
      show _ = _
      rw [List.getElem?_set_self lS]
    have hs1 : StoAt (G.set S (lvOb S0 ep others 14)) S0 D s := hs.stay fun j hj => by
      rw [List.getElem?_set_ne]
      rcases hj with rfl | rfl
      · exact hS
      · exact hD
    have e1 := lv_set3 h (k := 14)
    have e2 := lv_set3 h1 (k := 32)
    rw [List.set_set] at e2
    obtain ⟨g0, _, _, _⟩ := lv_fs h1
    have fd := st_de hs1
    have td := truth_lst hs1.del
    refine ⟨G.set S (lvOb S0 ep others (if s.del = [] then 14 else 32)), D, ?_, ?_, hs.stay fun j hj => ?_, by rw [List.length_set]; exact Nat.le_refl _, .inl rfl, fun j a b c d => by rw [List.getElem?_set_ne (Ne.symm b)]⟩
    · unfold b_Leaving_accept
      cases hd : s.del with
      | nil =>
        rw [hd] at td
        simp [f3, e1, g0, fd, td]
      | cons a l =>
        rw [hd] at td
        simp [f3, e1, g0, fd, td, e2]
    · show _ = _
      rw [List.getElem?_set_self lS]
      rfl
    · rw [List.getElem?_set_ne]
      rcases hj with rfl | rfl
      · exact hS
      · exact hD
  · have e1 := sf5 (p := 1) (v := .int i) h (show 1 < 4 by decide)
    simp only [List.set_cons_succ, List.set_cons_zero] at e1
    have h1 : LvAt (G.set S (lvOb S0 (.int i) others 32)) S S0 (.int i) others 32 := by
      show _ = _
      rw [List.getElem?_set_self lS]
    have lo := lv_look_on h1
    rw [List.set_set] at lo
    refine ⟨G.set S (lvOb S0 (.int i) others (if others = [] then 29 else 31)), D, ?_, ?_, hs.stay fun j hj => ?_, by rw [List.length_set]; exact Nat.le_refl _, .inl rfl, fun j a b c d => by rw [List.getElem?_set_ne (Ne.symm b)]⟩
    · unfold b_Leaving_accept
      simp [f3, e1, methV_1 h1, lo]
    · show _ = _
      rw [List.getElem?_set_self lS]
      rfl
    · rw [List.getElem?_set_ne]
      rcases hj with rfl | rfl
      · exact hS
      · exact hD
  · obtain ⟨a, l, rfl⟩ := List.exists_cons_of_ne_nil ho
    by_cases hc : v ≠ .non ∧ v ≠ .int e
    · obtain ⟨i, rfl⟩ := hv.resolve_left hc.1
      have hie : ¬ i = e := fun z => hc.2 (by rw [z])
      obtain ⟨G1, e1, z1, z2, z3, z4⟩ := lv_finish (e := e) h hs hS (by omega) hb
      have en : lvNext s (.int e) (a :: l) 31 (.int i) = (s.release e, .int e, a :: l, 14) := by
        unfold lvNext
        rw [if_neg (by decide), if_neg (by decide), if_neg (by decide), if_pos rfl, if_pos hc]
        rfl
      refine ⟨G1, G.length, ?_, by rw [en]; exact z1, by rw [en]; exact z2, by omega, .inr (Nat.le_refl _), fun j a b c d => z4 j a b c⟩
      have to : m_Leaving_take_other [.obj S, .int i] G = .ok .non G1 := by
        unfold m_Leaving_take_other b_Leaving_take_other
        rw [run_eq (by rfl)]
        simp [f1, hie, methV_1 h, e1]
      unfold b_Leaving_accept
      simp [f3, methV_1 h, to]
    · have en : lvNext s (.int e) (a :: l) 31 v = (s, .int e, l, if l = [] then 29 else 31) := by
        unfold lvNext
        rw [if_neg (by decide), if_neg (by decide), if_neg (by decide), if_pos rfl, if_neg hc]
        rfl
      have e1 := sf5 (p := 2) (v := .fro (l.map .int)) h (show 2 < 4 by decide)
      simp only [List.set_cons_succ, List.set_cons_zero] at e1
      have h1 : LvAt (G.set S (lvOb S0 (.int e) l 31)) S S0 (.int e) l 31 := by
        show _ = _
        rw [List.getElem?_set_self lS]
      have lo := lv_look_on h1
      rw [List.set_set] at lo
      have sl : fSl true (.fro ((a :: l).map .int)) (some 1) none G = .ok (.fro (l.map .int)) G := fSl_drop (n := 1)
      have to : m_Leaving_take_other [.obj S, v] G = .ok .non (G.set S (lvOb S0 (.int e) l (if l = [] then 29 else 31))) := by
        unfold m_Leaving_take_other b_Leaving_take_other
        rw [run_eq (by rfl)]
        simp only [List.map_cons] at f2 sl
        rcases hv with rfl | ⟨i, rfl⟩
        · simp [f2, sl, e1, methV_1 h1, lo]
        · have hie : i = e := by
            by_cases z : i = e
            · exact z
            · exact absurd ⟨by simp, by simpa using z⟩ hc
          simp [f1, hie, f2, sl, e1, methV_1 h1, lo]
      have hst : StoAt (G.set S (lvOb S0 (.int e) l (if l = [] then 29 else 31))) S0 D s := hs.stay fun j hj => by
        rw [List.getElem?_set_ne]
        rcases hj with rfl | rfl
        · exact hS
        · exact hD
      refine ⟨G.set S (lvOb S0 (.int e) l (if l = [] then 29 else 31)), D, ?_, ?_, by rw [en]; exact hst, by rw [List.length_set]; exact Nat.le_refl _, .inl rfl, fun j a b c d => by rw [List.getElem?_set_ne (Ne.symm b)]⟩
      · unfold b_Leaving_accept
        simp [f3, methV_1 h, to]
      · rw [en]
        show _ = _
        rw [List.getElem?_set_self lS]
  · obtain ⟨G1, e1, z1, z2, z3, z4⟩ := lv_finish (e := e + intOf (.bl b)) h hs hS (by omega) hb
    have en : lvNext s (.int e) others 29 (.bl b) = (s.release (e + intOf (.bl b)), .int e, others, 14) := by
      unfold lvNext
      rw [if_neg (by decide), if_neg (by decide), if_neg (by decide), if_neg (by decide)]
      rfl
    refine ⟨G1, G.length, ?_, by rw [en]; exact z1, by rw [en]; exact z2, by omega, .inr (Nat.le_refl _), fun j a b c d => z4 j a b c⟩
    unfold b_Leaving_accept
    cases b with
    | true =>
      have e1' : m_Leaving_finish [.obj S, .int (e + 1)] G = .ok .non G1 := e1
      simp [f3, f1, methV_1 h, e1']
    | false =>
      have e1' : m_Leaving_finish [.obj S, .int e] G = .ok .non G1 := by
        have : e + intOf (.bl false) = e := by simp [intOf]
        rw [this] at e1
        exact e1
      simp [f3, f1, methV_1 h, e1']
theorem MemAt.off {x : Mx} {m : Me} {G' : Store} {F : List Nat} (h : MemAt x m G) (hF : ∀ j ∈ F, Ap x G j) (k : ∀ j, j < G.length → j ∉ F → G'[j]? = G[j]?) : MemAt x m G' := h.stay fun j hj => by
  refine k j ?_ fun z => ?_
  · rcases hj with rfl | hj
    · exact h.ltL
    · exact h.lt j hj
  · rcases hj with rfl | hj
    · exact (hF _ z).L rfl
    · exact (hF _ z).own hj
end
/-! ### plain values in `in` and index -/
section
variable {G : Store}
theorem plnL_iff {k : Nat} : ∀ {l : List Val}, plnL k l = true ↔ ∀ v ∈ l, pln k v = true
  | [] => by simp [plnL]
  | v :: l => by
    show (pln k v && plnL k l) = true ↔ _
    rw [Bool.and_eq_true_iff, plnL_iff (l := l)]
    simp
theorem optAll_get {α β : Type} {f : α → Option β} : ∀ {l : List α} {r : List β} {i : Nat} {a : α}, optAll f l = some r → l[i]? = some a → ∃ b, r[i]? = some b ∧ f a = some b
  | [], r, i, a, h, e => by simp at e
  | a :: l, r, 0, a', h, e => by
    obtain ⟨b, s, h1, _, rfl⟩ := optAll_cons h
    simp at e
    subst e
    exact ⟨b, rfl, h1⟩
  | a :: l, r, i + 1, a', h, e => by
    obtain ⟨b, s, _, h2, rfl⟩ := optAll_cons h
    rw [List.getElem?_cons_succ] at e ⊢
    exact optAll_get h2 e
end
end Dk
namespace Dk
open PySem R1
/-! ### law k09: a memory, and objects beside it -/
theorem Rq.val_head (q : Rq) : ∃ k l, q.val = .tup (.str k :: l) ∧ k ≠ 19 ∧ k ≠ 14 := by
  cases q <;> exact ⟨_, _, rfl, by decide, by decide⟩
def Rq.plain : Rq → Prop
  | .read _ => True
  | .write _ _ => True
  | .swap _ _ _ => True
  | _ => False
section
variable {x x1 : Mx} {m m1 : Me} {G G1 : Store} {N t th c j : Nat} {F F' R P P' Q : List (Nat × Ob)} {o o' : Ob} {v : Val} {E : Int} {sl : Nat → Option Int}
theorem for_step9 {b : SM} {p : Pt} {v : Val} {r : List Val} {ρ ρ1 ρ2 : Env1} {G G1 : Store} (h1 : ptSet G p v ρ = some ρ1) (h2 : b ρ1 G = .next ρ2 G1) : forIt p b (v :: r) ρ G = forIt p b r ρ2 G1 := by
  rw [v_forCons, h1]
  simp only [h2]
/-- the memory, without notes -/
structure B9 (N t : Nat) (x : Mx) (m : Me) (G : Store) : Prop where
  at_ : MemAt x m G
  wf : m.Wf
  no : ∀ d ∈ m.notes, d = []
  r : m.r = 3 + 12 * t
  t : m.t = t
  w : m.w = 3
  cnt : m.count ≤ N
theorem B9.cells (b : B9 N t x m G) : m.cells = 7 + 14 * t := by
  unfold Me.cells
  rw [b.t, b.w, b.r]
  omega
theorem acc_count {q : Rq} : (m.acc th q).2.count = m.count + 1 := by unfold Me.acc; cases q <;> simp only [Me.res] <;> (try split) <;> rfl
theorem acc_rows {q : Rq} : (m.acc th q).2.rows = m.rows ++ [.tup [.int ((m.count : Int) + 1), .int (th : Int), q.val]] := by unfold Me.acc; cases q <;> simp only [Me.res] <;> (try split) <;> rfl
theorem b9_acc (b : B9 N t x m G) (hN : N < 90000) {q : Rq} (hq : q.ok m) (hp : q.plain) (ht : th < t) : ∃ x' G', m_Memory_access [.obj x.M, .int (th : Int), q.val] G = .ok (m.acc th q).1 G' ∧ B9 (N + 1) t x' (m.acc th q).2 G' ∧ Fr x G x' G' := by
  have hc := b.cnt
  have nf : q ≠ .fence := fun z => by subst z; exact hp
  obtain ⟨x', G', e, z1, z2⟩ := s_access b.at_ b.wf (by omega) hq (th := th) (by rw [b.t]; exact ht) (fun d hd => by rw [b.no d hd]; simp) nf
  refine ⟨x', G', e, ⟨z1, wf_acc b.wf hq, fun d hd => ?_, ?_, ?_, ?_, ?_⟩, z2⟩
  · have : (m.acc th q).2.notes = m.notes := by
      unfold Me.acc
      cases q with
      | flush c => exact hp.elim
      | fence => exact hp.elim
      | decide c v => exact hp.elim
      | _ => simp only [Me.res] <;> (try split) <;> rfl
    rw [this] at hd
    exact b.no d hd
  · have : (m.acc th q).2.r = m.r := by unfold Me.acc; cases q <;> simp only [Me.res] <;> (try split) <;> rfl
    rw [this]; exact b.r
  · have : (m.acc th q).2.t = m.t := by unfold Me.acc; cases q <;> simp only [Me.res] <;> (try split) <;> rfl
    rw [this]; exact b.t
  · have : (m.acc th q).2.w = m.w := by unfold Me.acc; cases q <;> simp only [Me.res] <;> (try split) <;> rfl
    rw [this]; exact b.w
  · rw [acc_count]; omega
theorem B9.mono (b : B9 N t x m G) {N' : Nat} (h : N ≤ N') : B9 N' t x m G := ⟨b.at_, b.wf, b.no, b.r, b.t, b.w, Nat.le_trans b.cnt h⟩
theorem B9.lay (b : B9 N t x m G) : LayAt G x.L ((t : Nat) : Int) ((3 : Nat) : Int) ((3 + 12 * t : Nat) : Int) := by
  have h := b.at_.lay
  rw [b.t, b.w, b.r] at h
  exact h
abbrev adr (P : List (Nat × Ob)) : List Nat := P.map (·.1)
/-- the memory and objects beside it -/
structure W9 (N t : Nat) (x : Mx) (m : Me) (P : List (Nat × Ob)) (G : Store) : Prop where
  b : B9 N t x m G
  nd : (adr P).Nodup
  ap : ∀ q ∈ P, Ap x G q.1
  at_ : ∀ q ∈ P, G[q.1]? = some q.2
theorem W9.mono (w : W9 N t x m P G) {N' : Nat} (h : N ≤ N') : W9 N' t x m P G := ⟨w.b.mono h, w.nd, w.ap, w.at_⟩
theorem W9.perm (w : W9 N t x m P G) (h : P.Perm Q) : W9 N t x m Q G := ⟨w.b, (h.map _).nodup_iff.mp w.nd, fun q hq => w.ap q (h.mem_iff.mpr hq), fun q hq => w.at_ q (h.mem_iff.mpr hq)⟩
theorem W9.lt (w : W9 N t x m P G) {q : Nat × Ob} (h : q ∈ P) : q.1 < G.length := (w.ap q h).lt
theorem w9_acc (w : W9 N t x m P G) (hN : N < 90000) {q : Rq} (hq : q.ok m) (hp : q.plain) (ht : th < t) : ∃ x' G', m_Memory_access [.obj x.M, .int (th : Int), q.val] G = .ok (m.acc th q).1 G' ∧ W9 (N + 1) t x' (m.acc th q).2 P G' ∧ Fr x G x' G' := by
  obtain ⟨x', G', e, z1, z2⟩ := b9_acc w.b hN hq hp ht
  exact ⟨x', G', e, ⟨z1, w.nd, fun q hq => ((w.ap q hq).fr z2).1, fun q hq => by rw [((w.ap q hq).fr z2).2]; exact w.at_ q hq⟩, z2⟩
theorem MemAt.off9 (h : MemAt x m G) (k : ∀ j, j < G.length → ¬ Ap x G j → G1[j]? = G[j]?) : MemAt x m G1 := h.stay fun j hj => by
  refine k j ?_ fun z => ?_
  · rcases hj with rfl | hj
    · exact h.ltL
    · exact h.lt j hj
  · rcases hj with rfl | hj
    · exact z.L rfl
    · exact z.own hj
/-- some of the objects change, the others stay -/
theorem W9.fo (w : W9 N t x m (F ++ R) G) (len : G.length ≤ G1.length) (off : ∀ j, j < G.length → j ∉ adr F → G1[j]? = G[j]?) (nd : (adr F').Nodup) (h : ∀ q ∈ F', G1[q.1]? = some q.2 ∧ (q.1 ∈ adr F ∨ G.length ≤ q.1)) : W9 N t x m (F' ++ R) G1 := by
  have nd0 := w.nd
  rw [adr, List.map_append, List.nodup_append] at nd0
  have apF : ∀ j ∈ adr F, Ap x G j := fun j hj => by
    obtain ⟨q, hq, rfl⟩ := List.mem_map.mp hj
    exact w.ap q (List.mem_append_left _ hq)
  have ap1 : ∀ {j}, Ap x G j → Ap x G1 j := fun a => ⟨Nat.lt_of_lt_of_le a.lt len, a.own, a.L⟩
  refine ⟨⟨w.b.at_.off9 fun j h1 h2 => off j h1 fun z => h2 (apF j z), w.b.wf, w.b.no, w.b.r, w.b.t, w.b.w, w.b.cnt⟩, ?_, fun q hq => ?_, fun q hq => ?_⟩
  · rw [adr, List.map_append, List.nodup_append]
    refine ⟨nd, nd0.2.1, fun a ha b hb e => ?_⟩
    subst e
    obtain ⟨q, hq, rfl⟩ := List.mem_map.mp ha
    obtain ⟨p, hp, e⟩ := List.mem_map.mp hb
    rcases (h q hq).2 with z | z
    · exact nd0.2.2 _ z _ hb rfl
    · have := w.lt (List.mem_append_right F hp)
      omega
  · rcases List.mem_append.mp hq with hq | hq
    · rcases (h q hq).2 with z | z
      · exact ap1 (apF _ z)
      · exact ⟨(List.getElem?_eq_some_iff.mp (h q hq).1).1, fun k => absurd (w.b.at_.lt _ k) (Nat.not_lt.mpr z), fun k => absurd w.b.at_.ltL (by rw [← k]; exact Nat.not_lt.mpr z)⟩
    · exact ap1 (w.ap q (List.mem_append_right _ hq))
  · rcases List.mem_append.mp hq with hq | hq
    · exact (h q hq).1
    · have m1 := List.mem_append_right F hq
      rw [off q.1 (w.lt m1) fun z => nd0.2.2 _ z _ (List.mem_map.mpr ⟨q, hq, rfl⟩) rfl]
      exact w.at_ q m1
theorem W9.app (w : W9 N t x m P G) {J : Store} : W9 N t x m P (G ++ J) := by
  have := w.fo (F := []) (F' := []) (R := P) (G1 := G ++ J) (by simp) (fun j hj _ => List.getElem?_append_left hj) (by simp) (fun q hq => by cases hq)
  exact this
theorem W9.put (w : W9 N t x m ((j, o) :: R) G) (o' : Ob) : W9 N t x m ((j, o') :: R) (G.set j o') := by
  refine w.fo (F := [(j, o)]) (F' := [(j, o')]) (by simp) (fun i hi hn => List.getElem?_set_ne fun z => hn (by simp [z])) (by simp) fun q hq => ?_
  rw [List.mem_singleton.mp hq]
  exact ⟨List.getElem?_set_self (w.lt (q := (j, o)) (List.mem_cons_self ..)), .inl (by simp)⟩
theorem W9.push (w : W9 N t x m R G) (o : Ob) : W9 N t x m ((G.length, o) :: R) (G ++ [o]) := by
  refine w.fo (F := []) (F' := [(G.length, o)]) (by simp) (fun i hi hn => List.getElem?_append_left hi) (by simp) fun q hq => ?_
  rw [List.mem_singleton.mp hq]
  exact ⟨by simp, .inr (Nat.le_refl _)⟩
theorem W9.drop (w : W9 N t x m (F ++ R) G) : W9 N t x m R G := ⟨w.b, (List.nodup_append.mp (by have := w.nd; rw [adr, List.map_append] at this; exact this)).2.1, fun q hq => w.ap q (List.mem_append_right _ hq), fun q hq => w.at_ q (List.mem_append_right _ hq)⟩
/-- what the memory's passing cells hold -/
structure Ab9 (t : Nat) (m : Me) (E : Int) (sl : Nat → Option Int) : Prop where
  ep : m.cur 0 = .int E
  sl : ∀ i, i < t → m.cur (1 + i) = optV (sl i)
theorem cur_read {cell : Nat} : (m.acc th (.read cell)).2.cur = m.cur := rfl
theorem acc_read {cell : Nat} : (m.acc th (.read cell)).1 = .tup [m.cur cell, .int ((m.count : Int) + 1)] := rfl
theorem cur_write (wf : m.Wf) {cell d : Nat} (h : cell < m.cells) : (m.acc th (.write cell v)).2.cur d = if d = cell then v else m.cur d := cur_give (m := m.tick th (.write cell v)) (wf_tick wf) h
theorem Ab9.read (a : Ab9 t m E sl) {cell : Nat} : Ab9 t (m.acc th (.read cell)).2 E sl := ⟨by rw [cur_read]; exact a.ep, fun i hi => by rw [cur_read]; exact a.sl i hi⟩
def upd (sl : Nat → Option Int) (k : Nat) (v : Option Int) : Nat → Option Int := fun i => if i = k then v else sl i
theorem Ab9.write (a : Ab9 t m E sl) (wf : m.Wf) {k : Nat} (hk : 1 + k < m.cells) {v : Option Int} : Ab9 t (m.acc th (.write (1 + k) (optV v))).2 E (upd sl k v) := by
  refine ⟨by rw [cur_write wf hk, if_neg (by omega)]; exact a.ep, fun i hi => ?_⟩
  rw [cur_write wf hk]
  unfold upd
  by_cases h : i = k
  · subst h
    rw [if_pos rfl, if_pos rfl]
  · rw [if_neg (by omega), if_neg h]
    exact a.sl i hi
theorem same_int {a : Int} : sameV (.int a) (.int a) = true := by
  unfold sameV
  simp [dataOf, toD, PyData.eqv]
theorem same_int_ne {a b : Int} (h : a ≠ b) : sameV (.int a) (.int b) = false := by
  have e : PyData.eqv (.int a) (.int b) = decide (a = b) := rfl
  unfold sameV
  simp [dataOf, toD, e, h]
theorem acc_swapT {cell : Nat} {a b : Val} (h : sameV (m.cur cell) a = true) : m.acc th (.swap cell a b) = (.tup [.bl true, .int ((m.count : Int) + 1)], (m.tick th (.swap cell a b)).give cell b) := by
  have : sameV ((m.tick th (.swap cell a b)).cur cell) a = true := h
  unfold Me.acc Me.res
  simp only [this, if_true]
theorem acc_swapF {cell : Nat} {a b : Val} (h : sameV (m.cur cell) a = false) : m.acc th (.swap cell a b) = (.tup [.bl false, .int ((m.count : Int) + 1)], m.tick th (.swap cell a b)) := by
  have : sameV ((m.tick th (.swap cell a b)).cur cell) a = false := h
  unfold Me.acc Me.res
  simp [this]
theorem Ab9.swapT (a : Ab9 t m E sl) (wf : m.Wf) (hk : 0 < m.cells) : Ab9 t (m.acc th (.swap 0 (.int E) (.int (E + 1)))).2 (E + 1) sl := by
  have e := acc_swapT (m := m) (th := th) (cell := 0) (a := .int E) (b := .int (E + 1)) (by rw [a.ep]; exact same_int)
  have c : ∀ d, (m.acc th (.swap 0 (.int E) (.int (E + 1)))).2.cur d = if d = 0 then .int (E + 1) else m.cur d := fun d => by
    rw [e]
    exact cur_give (m := m.tick th (.swap 0 (.int E) (.int (E + 1)))) (wf_tick wf) hk
  refine ⟨by rw [c]; rfl, fun i hi => ?_⟩
  rw [c, if_neg (by omega)]
  exact a.sl i hi
theorem Ab9.swapF (a : Ab9 t m E sl) {e e2 : Int} (h : E ≠ e) : Ab9 t (m.acc th (.swap 0 (.int e) (.int e2))).2 E sl := by
  rw [acc_swapF (by rw [a.ep]; exact same_int_ne h)]
  exact ⟨a.ep, a.sl⟩
end
/-! ### law k09: a step of a thread's machine -/
section
variable {x x1 : Mx} {m m1 : Me} {G G1 G3 : Store} {N t th c K ML S S0 D D' : Nat} {R : List (Nat × Ob)} {o o' mo' : Ob} {v u res : Val} {E e : Int} {sl : Nat → Option Int} {s s' : Sto} {vs : List Val} {fq fa : F1}
inductive Mc9 where
  | e2 | e3 (e : Int) | e27 (e : Int) | l30 | l28 | l32 | l31 (e : Int) (o : Nat) (os : List Nat) | l29 (e : Int)
def nI (l : List Nat) : List Int := l.map fun (k : Nat) => (k : Int)
def othN (t th : Nat) : List Nat := (List.range' 0 t).filter fun k => decide (k ≠ th)
theorem othN_of : nI (othN t th) = othersOf t th := by
  unfold nI othN othersOf
  rw [List.filter_map]
  congr 2
  funext k
  show decide (k ≠ th) = decide ((k : Int) ≠ (th : Int))
  rw [decide_eq_decide]
  omega
def Mc9.ob (t th S0 : Nat) : Mc9 → Ob
  | .e2 => enOb (1 + th) 2 .non
  | .e3 e => enOb (1 + th) 3 (.int e)
  | .e27 e => enOb (1 + th) 27 (.int e)
  | .l30 => lvOb S0 .non (nI (othN t th)) 30
  | .l28 => lvOb S0 .non (nI (othN t th)) 28
  | .l32 => lvOb S0 .non (nI (othN t th)) 32
  | .l31 e o os => lvOb S0 (.int e) (nI (o :: os)) 31
  | .l29 e => lvOb S0 (.int e) (nI []) 29
def Mc9.cl : Mc9 → Nat
  | .e2 => 6
  | .e3 _ => 6
  | .e27 _ => 6
  | _ => 7
def Mc9.rq (th : Nat) : Mc9 → Rq
  | .e3 e => .write (1 + th) (.int e)
  | .l28 => .write (1 + th) .non
  | .l31 _ o _ => .read (1 + o)
  | .l29 e => .swap 0 (.int e) (.int (e + 1))
  | _ => .read 0
def Mc9.ok (t : Nat) : Mc9 → Prop
  | .l31 _ o os => ∀ k ∈ o :: os, k < t
  | _ => True
def scan9 (e : Int) : List Nat → Mc9
  | [] => .l29 e
  | o :: os => .l31 e o os
theorem scan9_ob {l : List Nat} : (scan9 e l).ob t th S0 = lvOb S0 (.int e) (nI l) (if nI l = [] then 29 else 31) := by
  cases l with
  | nil => rfl
  | cons a l => rfl
structure Nx9 where
  E : Int
  sl : Nat → Option Int
  s : Sto
  mc : Option Mc9
  res : Val
/-- what a step of a machine makes -/
def nx9 (t th : Nat) (E : Int) (sl : Nat → Option Int) (s : Sto) : Mc9 → Nx9
  | .e2 => ⟨E, sl, s, some (.e3 E), .non⟩
  | .e3 e => ⟨E, upd sl th (some e), s, some (.e27 e), .non⟩
  | .e27 e => if E = e then ⟨E, sl, s, none, .int e⟩ else ⟨E, sl, s, some (.e3 E), .non⟩
  | .l30 => ⟨E, sl, s.stamp E, some .l28, .non⟩
  | .l28 => ⟨E, upd sl th none, s, if s.del = [] then none else some .l32, .non⟩
  | .l32 => ⟨E, sl, s, some (scan9 E (othN t th)), .non⟩
  | .l31 e o os => match sl o with
    | some v => if v = e then ⟨E, sl, s, some (scan9 e os), .non⟩ else ⟨E, sl, s.release e, none, .non⟩
    | none => ⟨E, sl, s, some (scan9 e os), .non⟩
  | .l29 e => if E = e then ⟨E + 1, sl, s.release (e + 1), none, .non⟩ else ⟨E, sl, s.release e, none, .non⟩
abbrev stoP (S0 D : Nat) (s : Sto) : List (Nat × Ob) := [(S0, stoOb s D), (D, .lst (s.del.map rowV))]
abbrev stkP (K ML S : Nat) (o : Ob) : List (Nat × Ob) := [(K, .ins 3 [.obj ML, .non]), (ML, .lst [.obj S]), (S, o)]
abbrev skP (K ML S : Nat) (t th S0 : Nat) (mc : Option Mc9) (res : Val) : List (Nat × Ob) := match mc with
  | some mc => stkP K ML S (mc.ob t th S0)
  | none => [(K, .ins 3 [.obj ML, res]), (ML, .lst [])]
theorem W9.nds (w : W9 N t x m (stkP K ML S o ++ stoP S0 D s ++ R) G) : K ≠ ML ∧ K ≠ S ∧ K ≠ S0 ∧ K ≠ D ∧ ML ≠ S ∧ ML ≠ S0 ∧ ML ≠ D ∧ S ≠ S0 ∧ S ≠ D ∧ S0 ≠ D := by
  have h := w.nd
  rw [adr, List.map_append] at h
  have h := (List.nodup_append.mp h).1
  simp only [List.map_append, List.map_cons, List.map_nil, List.cons_append, List.nil_append, List.nodup_cons, List.mem_cons, not_or, List.not_mem_nil, not_false_eq_true, and_true, List.nodup_nil] at h
  obtain ⟨⟨a1, a2, a3, a4⟩, ⟨a5, a6, a7⟩, ⟨a8, a9⟩, a10⟩ := h
  exact ⟨a1, a2, a3, a4, a5, a6, a7, a8, a9, a10⟩
theorem W9.stk (w : W9 N t x m (stkP K ML S o ++ stoP S0 D s ++ R) G) : StkAt G K ML [.obj S] .non := ⟨w.at_ (K, _) (by simp), w.at_ (ML, _) (by simp)⟩
theorem W9.mac (w : W9 N t x m (stkP K ML S o ++ stoP S0 D s ++ R) G) : G[S]? = some o := w.at_ (S, _) (by simp)
theorem W9.sto (w : W9 N t x m (stkP K ML S o ++ stoP S0 D s ++ R) G) : StoAt G S0 D s := ⟨w.at_ (S0, _) (by simp), w.at_ (D, _) (by simp), w.nds.2.2.2.2.2.2.2.2.2⟩
/-- the machine and its store change -/
theorem W9.mst (w : W9 N t x m (stkP K ML S o ++ stoP S0 D s ++ R) G) (h1 : G3[S]? = some mo') (h2 : StoAt G3 S0 D' s') (h3 : G.length ≤ G3.length) (h4 : D' = D ∨ G.length ≤ D') (h5 : ∀ j, j < G.length → j ≠ S → j ≠ S0 → j ≠ D → G3[j]? = G[j]?) : W9 N t x m (stkP K ML S mo' ++ stoP S0 D' s' ++ R) G3 := by
  obtain ⟨a1, a2, a3, a4, a5, a6, a7, a8, a9, a10⟩ := w.nds
  have lt : ∀ j ∈ [K, ML, S, S0, D], j < G.length := fun j hj => by
    simp only [List.mem_cons, List.not_mem_nil, or_false] at hj
    rcases hj with rfl | rfl | rfl | rfl | rfl
    · exact w.lt (q := (_, _)) (by simp; exact .inl rfl)
    · exact w.lt (q := (_, _)) (by simp; exact .inr (.inl rfl))
    · exact w.lt (q := (_, _)) (by simp; exact .inr (.inr (.inl rfl)))
    · exact w.lt (q := (_, _)) (by simp; exact .inr (.inr (.inr (.inl rfl))))
    · exact w.lt (q := (_, _)) (by simp; exact .inr (.inr (.inr (.inr (.inl rfl)))))
  have l1 := lt K (by simp)
  have l2 := lt ML (by simp)
  have l3 := lt S (by simp)
  have l4 := lt S0 (by simp)
  refine w.fo (F' := stkP K ML S mo' ++ stoP S0 D' s') h3 (fun j hj hn => ?_) ?_ fun q hq => ?_
  · simp only [adr, List.map_append, List.map_cons, List.map_nil, List.cons_append, List.nil_append, List.mem_cons, not_or, List.not_mem_nil, not_false_eq_true, and_true] at hn
    exact h5 j hj hn.2.2.1 hn.2.2.2.1 hn.2.2.2.2
  · simp only [adr, List.map_append, List.map_cons, List.map_nil, List.cons_append, List.nil_append, List.nodup_cons, List.mem_cons, not_or, List.not_mem_nil, not_false_eq_true, and_true, List.nodup_nil]
    rcases h4 with rfl | h4
    · exact ⟨⟨a1, a2, a3, a4⟩, ⟨a5, a6, a7⟩, ⟨a8, a9⟩, a10⟩
    · exact ⟨⟨a1, a2, a3, by omega⟩, ⟨a5, a6, by omega⟩, ⟨a8, by omega⟩, by omega⟩
  · simp only [List.cons_append, List.nil_append, List.mem_cons, List.not_mem_nil, or_false] at hq
    rcases hq with rfl | rfl | rfl | rfl | rfl
    · exact ⟨by rw [h5 K l1 a2 a3 a4]; exact w.stk.1, .inl (by simp)⟩
    · exact ⟨by rw [h5 ML l2 a5 a6 a7]; exact w.stk.2, .inl (by simp)⟩
    · exact ⟨h1, .inl (by simp)⟩
    · exact ⟨h2.ins, .inl (by simp)⟩
    · refine ⟨h2.del, ?_⟩
      rcases h4 with rfl | h4
      · exact .inl (by simp)
      · exact .inr h4
theorem W9.fin (w : W9 N t x m (stkP K ML S o ++ stoP S0 D s ++ R) G) (v : Val) : W9 N t x m ([(K, .ins 3 [.obj ML, v]), (ML, .lst [])] ++ stoP S0 D s ++ R) ((G.set ML (.lst [])).set K (.ins 3 [.obj ML, v])) := by
  obtain ⟨a1, a2, a3, a4, a5, a6, a7, a8, a9, a10⟩ := w.nds
  have l1 := w.lt (q := (K, _)) (by simp; exact .inl rfl)
  have l2 := w.lt (q := (ML, _)) (by simp; exact .inr (.inl rfl))
  have g : ∀ j, j ≠ K → j ≠ ML → ((G.set ML (.lst [])).set K (.ins 3 [.obj ML, v]))[j]? = G[j]? := fun j a b => by rw [List.getElem?_set_ne (Ne.symm a), List.getElem?_set_ne (Ne.symm b)]
  refine w.fo (by simp) (fun j hj hn => ?_) ?_ fun q hq => ?_
  · simp only [adr, List.map_append, List.map_cons, List.map_nil, List.cons_append, List.nil_append, List.mem_cons, not_or, List.not_mem_nil, not_false_eq_true, and_true] at hn
    exact g j hn.1 hn.2.1
  · simp only [adr, List.map_append, List.map_cons, List.map_nil, List.cons_append, List.nil_append, List.nodup_cons, List.mem_cons, not_or, List.not_mem_nil, not_false_eq_true, and_true, List.nodup_nil]
    exact ⟨⟨a1, a3, a4⟩, ⟨a6, a7⟩, a10⟩
  · simp only [List.cons_append, List.nil_append, List.mem_cons, List.not_mem_nil, or_false] at hq
    rcases hq with rfl | rfl | rfl | rfl
    · exact ⟨by rw [List.getElem?_set_self (by rw [List.length_set]; exact l1)], .inl (by simp)⟩
    · exact ⟨by rw [List.getElem?_set_ne a1, List.getElem?_set_self l2], .inl (by simp)⟩
    · exact ⟨by rw [g _ (Ne.symm a3) (Ne.symm a6)]; exact w.sto.ins, .inl (by simp)⟩
    · exact ⟨by rw [g _ (Ne.symm a4) (Ne.symm a7)]; exact w.sto.del, .inl (by simp)⟩
/-- a step up to its last settling -/
theorem W9.step (w : W9 N t x m (stkP K ML S (.ins c vs) ++ stoP S0 D s ++ R) G) (hq : reqTb.lookup c = some fq) (ha : accTb.lookup c = some fa) {q : Rq} (e1 : fq [.obj S] G = .ok q.val G) (hqok : q.ok m) (hp : q.plain) (ht : th < t) (hN : N < 90000)
    (ac : ∀ x1 G1, W9 (N + 1) t x1 (m.acc th q).2 (stkP K ML S (.ins c vs) ++ stoP S0 D s ++ R) G1 → x1.L = x.L → ∃ G3 D', fa [.obj S, (m.acc th q).1] G1 = .ok .non G3 ∧ G3[S]? = some mo' ∧ StoAt G3 S0 D' s' ∧ G1.length ≤ G3.length ∧ (D' = D ∨ G1.length ≤ D') ∧ ∀ j, j < G1.length → j ≠ S → j ≠ S0 → j ≠ D → G3[j]? = G1[j]?) :
    ∃ x3 G3 D', W9 (N + 1) t x3 (m.acc th q).2 (stkP K ML S mo' ++ stoP S0 D' s' ++ R) G3 ∧ x3.M = x.M ∧ x3.L = x.L ∧ G.length ≤ G3.length ∧ ∀ G4, m_Stack_settle [.obj K] G3 = .ok .non G4 → m_Stack_step [.obj K, .obj x.M, .int (th : Int)] G = .ok (.bl true) G4 := by
  obtain ⟨x1, G1, e2, w1, f1⟩ := w9_acc w hN hqok hp ht
  obtain ⟨k, l, ek, k1, k2⟩ := q.val_head
  have e1' := e1
  rw [ek] at e1'
  have es := settle_acc w.stk (by rfl) w.mac hq e1' k1 k2
  obtain ⟨G3, D', e3, h1, h2, h3, h4, h5⟩ := ac x1 G1 w1 f1.L
  have w3 := w1.mst h1 h2 h3 h4 h5
  exact ⟨x1, G3, D', w3, f1.M, f1.L, Nat.le_trans f1.len h3, fun G4 h => step_of w.stk.1 es w.stk (by rfl) w.mac hq ha e1 w.b.at_.mem e2 e3 w3.stk.1 h⟩
theorem W9.stA (w : W9 N t x m (stkP K ML S (.ins c vs) ++ stoP S0 D s ++ R) G) (hq : reqTb.lookup c = some fq) {q : Rq} (e1 : fq [.obj S] G = .ok q.val G) : m_Stack_settle [.obj K] G = .ok .non G := by
  obtain ⟨k, l, ek, k1, k2⟩ := q.val_head
  rw [ek] at e1
  exact settle_acc w.stk rfl w.mac hq e1 k1 k2
theorem W9.stE (w : W9 N t x m (stkP K ML S (.ins c vs) ++ stoP S0 D s ++ R) G) (hq : reqTb.lookup c = some fq) (e1 : fq [.obj S] G = .ok (.tup [.str 14, v]) G) : ∃ G4, m_Stack_settle [.obj K] G = .ok .non G4 ∧ W9 N t x m ([(K, .ins 3 [.obj ML, v]), (ML, .lst [])] ++ stoP S0 D s ++ R) G4 ∧ G.length ≤ G4.length :=
  ⟨_, settle_end0 w.nds.1 w.stk w.mac hq e1, w.fin v, by simp⟩
theorem W9.layS (w : W9 N t x m R G) (hL : s.L = x.L) : LayAt G s.L ((t : Nat) : Int) ((3 : Nat) : Int) ((3 + 12 * t : Nat) : Int) := by
  rw [hL]
  exact w.b.lay
/-- what a machine wants -/
theorem mrq9 (mc : Mc9) (h : G[S]? = some (mc.ob t th S0)) (hs : StoAt G S0 D s) (hL : LayAt G s.L ((t : Nat) : Int) ((3 : Nat) : Int) ((3 + 12 * t : Nat) : Int)) (hth : s.th = th) : ∃ fq vs, reqTb.lookup mc.cl = some fq ∧ mc.ob t th S0 = .ins mc.cl vs ∧ fq [.obj S] G = .ok (mc.rq th).val G := by
  have lv : ∀ {ep others st} {q : Rq}, G[S]? = some (lvOb S0 ep others st) → (st = 30 ∨ st = 32 ∨ st = 28 ∨ (st = 31 ∧ others ≠ []) ∨ (st = 29 ∧ ∃ e, ep = .int e) ∨ st = 14) → lvReq s ep others st = q.val → m_Leaving_request [.obj S] G = .ok q.val G := fun h1 h2 h3 => by
    rw [lv_request h1 hs hL h2, h3]
  cases mc with
  | e2 => exact ⟨_, _, rfl, rfl, en_read h (.inl rfl) rfl⟩
  | e3 e => exact ⟨_, _, rfl, rfl, en_write h rfl⟩
  | e27 e => exact ⟨_, _, rfl, rfl, en_read h (.inr rfl) rfl⟩
  | l30 => exact ⟨_, _, rfl, rfl, lv h (.inl rfl) rfl⟩
  | l28 => exact ⟨_, _, rfl, rfl, lv h (.inr (.inr (.inl rfl))) (by rw [← hth]; rfl)⟩
  | l32 => exact ⟨_, _, rfl, rfl, lv h (.inr (.inl rfl)) rfl⟩
  | l31 e o os => exact ⟨_, _, rfl, rfl, lv h (.inr (.inr (.inr (.inl ⟨rfl, by simp [nI]⟩)))) (by simp [lvReq, Rq.val, nI, Mc9.rq])⟩
  | l29 e => exact ⟨_, _, rfl, rfl, lv h (.inr (.inr (.inr (.inr (.inl ⟨rfl, _, rfl⟩))))) (by simp [lvReq, Rq.val, Mc9.rq])⟩
end
/-! ### law k09: each step of a machine -/
section
variable {x x1 x3 : Mx} {m m1 : Me} {G G1 G3 : Store} {N t th c K ML S S0 D D' : Nat} {R : List (Nat × Ob)} {o o' mo' : Ob} {v u res : Val} {E e : Int} {sl : Nat → Option Int} {s s' : Sto} {vs : List Val} {fq fa : F1}
theorem go9 (mc : Mc9) (w : W9 N t x m (stkP K ML S (mc.ob t th S0) ++ stoP S0 D s ++ R) G) (hth : s.th = th) (hL : s.L = x.L) : m_Stack_settle [.obj K] G = .ok .non G := by
  obtain ⟨fq, vs, h1, h2, h3⟩ := mrq9 mc w.mac w.sto (w.layS hL) hth
  rw [h2] at w
  exact w.stA h1 h3
theorem W9.ef (w : W9 N t x m (stkP K ML S o ++ stoP S0 D s ++ R) G) (mo : Ob) : (G.set S mo)[S]? = some mo ∧ StoAt (G.set S mo) S0 D s ∧ G.length ≤ (G.set S mo).length ∧ (D = D ∨ G.length ≤ D) ∧ ∀ j, j < G.length → j ≠ S → j ≠ S0 → j ≠ D → (G.set S mo)[j]? = G[j]? := by
  obtain ⟨a1, a2, a3, a4, a5, a6, a7, a8, a9, a10⟩ := w.nds
  refine ⟨List.getElem?_set_self (w.lt (q := (S, o)) (by simp)), w.sto.stay fun j hj => ?_, by rw [List.length_set]; exact Nat.le_refl _, .inl rfl, fun j _ h _ _ => List.getElem?_set_ne (Ne.symm h)⟩
  rw [List.getElem?_set_ne]
  rcases hj with rfl | rfl
  · exact a8
  · exact a9
theorem rel_L9 : (s.release e).L = s.L ∧ (s.release e).th = s.th ∧ (s.release e).out = s.out := by
  obtain ⟨a, b, c, d⟩ := rel_keep (e := e) s.del (s, [])
  exact ⟨a, b, c⟩
/-- what a step of a machine leaves -/
def St9 (N t th : Nat) (x : Mx) (m : Me) (G : Store) (K ML S S0 : Nat) (R : List (Nat × Ob)) (q : Rq) (n : Nx9) : Prop :=
  ∃ x' m' G' D', W9 (N + 1) t x' m' (skP K ML S t th S0 n.mc n.res ++ stoP S0 D' n.s ++ R) G' ∧ Ab9 t m' n.E n.sl ∧ m_Stack_step [.obj K, .obj x.M, .int (th : Int)] G = .ok (.bl true) G' ∧ x'.M = x.M ∧ x'.L = x.L ∧ G.length ≤ G'.length ∧ m'.rows = m.rows ++ [.tup [.int ((m.count : Int) + 1), .int (th : Int), q.val]]
theorem st9_go {mc mc' : Mc9} (w : W9 N t x m (stkP K ML S (mc.ob t th S0) ++ stoP S0 D s ++ R) G) (hth : s.th = th) (hL : s.L = x.L) (ht : th < t) (hN : N < 80000) (hqok : (mc.rq th).ok m) (hp : (mc.rq th).plain) {fa : F1} (ha : accTb.lookup mc.cl = some fa) (hth' : s'.th = s.th) (hL' : s'.L = s.L) {E' : Int} {sl' : Nat → Option Int} (ab : Ab9 t (m.acc th (mc.rq th)).2 E' sl')
    (ac : ∀ x1 G1, W9 (N + 1) t x1 (m.acc th (mc.rq th)).2 (stkP K ML S (mc.ob t th S0) ++ stoP S0 D s ++ R) G1 → x1.L = x.L → ∃ G3 D', fa [.obj S, (m.acc th (mc.rq th)).1] G1 = .ok .non G3 ∧ G3[S]? = some (mc'.ob t th S0) ∧ StoAt G3 S0 D' s' ∧ G1.length ≤ G3.length ∧ (D' = D ∨ G1.length ≤ D') ∧ ∀ j, j < G1.length → j ≠ S → j ≠ S0 → j ≠ D → G3[j]? = G1[j]?) : St9 N t th x m G K ML S S0 R (mc.rq th) ⟨E', sl', s', some mc', .non⟩ := by
  obtain ⟨fq, vs, h1, h2, h3⟩ := mrq9 mc w.mac w.sto (w.layS hL) hth
  rw [h2] at w ac
  obtain ⟨x3, G3, D', w3, hM, hL3, hl, st⟩ := w.step h1 ha h3 hqok hp ht (by omega) ac
  exact ⟨x3, _, G3, D', w3, ab, st _ (go9 mc' w3 (hth'.trans hth) (hL'.trans (hL.trans hL3.symm))), hM, hL3, hl, acc_rows⟩
theorem st9_end {mc : Mc9} {fe : F1} {ce : Nat} {vse : List Val} (w : W9 N t x m (stkP K ML S (mc.ob t th S0) ++ stoP S0 D s ++ R) G) (hth : s.th = th) (hL : s.L = x.L) (ht : th < t) (hN : N < 80000) (hqok : (mc.rq th).ok m) (hp : (mc.rq th).plain) {fa : F1} (ha : accTb.lookup mc.cl = some fa) (hth' : s'.th = s.th) (hL' : s'.L = s.L) {E' : Int} {sl' : Nat → Option Int} (ab : Ab9 t (m.acc th (mc.rq th)).2 E' sl')
    (ac : ∀ x1 G1, W9 (N + 1) t x1 (m.acc th (mc.rq th)).2 (stkP K ML S (mc.ob t th S0) ++ stoP S0 D s ++ R) G1 → x1.L = x.L → ∃ G3 D', fa [.obj S, (m.acc th (mc.rq th)).1] G1 = .ok .non G3 ∧ G3[S]? = some (.ins ce vse) ∧ StoAt G3 S0 D' s' ∧ G1.length ≤ G3.length ∧ (D' = D ∨ G1.length ≤ D') ∧ ∀ j, j < G1.length → j ≠ S → j ≠ S0 → j ≠ D → G3[j]? = G1[j]?)
    (he : reqTb.lookup ce = some fe) (hr : ∀ x3 m3 G3 D', W9 (N + 1) t x3 m3 (stkP K ML S (.ins ce vse) ++ stoP S0 D' s' ++ R) G3 → x3.L = x.L → fe [.obj S] G3 = .ok (.tup [.str 14, res]) G3) : St9 N t th x m G K ML S S0 R (mc.rq th) ⟨E', sl', s', none, res⟩ := by
  obtain ⟨fq, vs, h1, h2, h3⟩ := mrq9 mc w.mac w.sto (w.layS hL) hth
  rw [h2] at w ac
  obtain ⟨x3, G3, D', w3, hM, hL3, hl, st⟩ := w.step h1 ha h3 hqok hp ht (by omega) ac
  obtain ⟨G4, e4, w4, l4⟩ := w3.stE he (hr _ _ _ _ w3 hL3)
  exact ⟨x3, _, G4, D', w4, ab, st _ e4, hM, hL3, Nat.le_trans hl l4, acc_rows⟩
theorem step9 (mc : Mc9) (w : W9 N t x m (stkP K ML S (mc.ob t th S0) ++ stoP S0 D s ++ R) G) (ab : Ab9 t m E sl) (ok : mc.ok t) (hth : s.th = th) (hL : s.L = x.L) (ht : th < t) (hN : N < 80000) (hl : s.del.length < 100000) (hb : s.spare.length + totD s.del ≤ 1000000) : St9 N t th x m G K ML S S0 R (mc.rq th) (nx9 t th E sl s mc) := by
  have cl := w.b.cells
  have c0 : 0 < m.cells := by omega
  have c1 : 1 + th < m.cells := by omega
  have endL : ∀ {ep others} {s' : Sto}, s'.L = s.L → ∀ x3 m3 G3 D', W9 (N + 1) t x3 m3 (stkP K ML S (lvOb S0 ep others 14) ++ stoP S0 D' s' ++ R) G3 → x3.L = x.L → m_Leaving_request [.obj S] G3 = .ok (.tup [.str 14, .non]) G3 := fun h x3 m3 G3 D' w3 h3 =>
    lv_request w3.mac w3.sto (w3.layS (h.trans (hL.trans h3.symm))) (.inr (.inr (.inr (.inr (.inr rfl)))))
  have lva : ∀ {ep others st v u}, LvOk ep others st v → ∀ {N m} x1 G1, W9 N t x1 m (stkP K ML S (lvOb S0 ep others st) ++ stoP S0 D s ++ R) G1 → ∃ G3 D', m_Leaving_accept [.obj S, .tup [v, u]] G1 = .ok .non G3 ∧ G3[S]? = some (lvOb S0 (lvNext s ep others st v).2.1 (lvNext s ep others st v).2.2.1 (lvNext s ep others st v).2.2.2) ∧ StoAt G3 S0 D' (lvNext s ep others st v).1 ∧ G1.length ≤ G3.length ∧ (D' = D ∨ G1.length ≤ D') ∧ ∀ j, j < G1.length → j ≠ S → j ≠ S0 → j ≠ D → G3[j]? = G1[j]? := fun ok N m x1 G1 z => by
    obtain ⟨a1, a2, a3, a4, a5, a6, a7, a8, a9, a10⟩ := z.nds
    exact lv_accept z.mac z.sto a8 a9 hl hb ok
  cases mc with
  | e2 =>
    refine st9_go (mc' := .e3 E) (s' := s) (fa := m_Entering_accept) w hth hL ht hN c0 trivial rfl rfl rfl ab.read fun x1 G1 z _ => ?_
    show ∃ G3 D', m_Entering_accept [.obj S, (m.acc th (.read 0)).1] G1 = _ ∧ _
    rw [acc_read, ab.ep]
    exact ⟨_, D, en_acc_read z.mac, z.ef _⟩
  | e3 e =>
    refine st9_go (mc' := .e27 e) (s' := s) (fa := m_Entering_accept) w hth hL ht hN ⟨c1, ok_int⟩ trivial rfl rfl rfl (ab.write (v := some e) w.b.wf c1) fun x1 G1 z _ => ?_
    exact ⟨_, D, en_acc_write z.mac, z.ef _⟩
  | e27 e =>
    simp only [nx9]
    by_cases h : E = e
    · rw [if_pos h]
      refine st9_end (s' := s) (fa := m_Entering_accept) (fe := m_Entering_request) (ce := 6) (vse := [.int 0, .int ((1 + th : Nat) : Int), .str 14, .int e]) w hth hL ht hN c0 trivial rfl rfl rfl ab.read (fun x1 G1 z _ => ?_) rfl fun x3 m3 G3 D' w3 _ => en_end w3.mac rfl
      show ∃ G3 D', m_Entering_accept [.obj S, (m.acc th (.read 0)).1] G1 = _ ∧ _
      rw [acc_read, ab.ep]
      have := en_acc_again (a := E) (u := .int ((m.count : Int) + 1)) z.mac
      rw [if_pos h] at this
      exact ⟨_, D, this, z.ef _⟩
    · rw [if_neg h]
      refine st9_go (mc' := .e3 E) (s' := s) (fa := m_Entering_accept) w hth hL ht hN c0 trivial rfl rfl rfl ab.read fun x1 G1 z _ => ?_
      show ∃ G3 D', m_Entering_accept [.obj S, (m.acc th (.read 0)).1] G1 = _ ∧ _
      rw [acc_read, ab.ep]
      have := en_acc_again (a := E) (u := .int ((m.count : Int) + 1)) z.mac
      rw [if_neg h] at this
      exact ⟨_, D, this, z.ef _⟩
  | l30 =>
    refine st9_go (mc' := .l28) (s' := s.stamp E) (fa := m_Leaving_accept) w hth hL ht hN c0 trivial rfl rfl rfl ab.read fun x1 G1 z _ => ?_
    show ∃ G3 D', m_Leaving_accept [.obj S, (m.acc th (.read 0)).1] G1 = _ ∧ _
    rw [acc_read, ab.ep]
    exact lva (.inl ⟨rfl, _, rfl⟩) x1 G1 z
  | l28 =>
    have ac := fun x1 G1 (z : W9 (N + 1) t x1 (m.acc th (.write (1 + th) .non)).2 (stkP K ML S (lvOb S0 .non (nI (othN t th)) 28) ++ stoP S0 D s ++ R) G1) => lva (v := .non) (u := .int ((m.count : Int) + 1)) (.inr (.inl rfl)) x1 G1 z
    have en : lvNext s .non (nI (othN t th)) 28 .non = (s, .non, nI (othN t th), if s.del = [] then 14 else 32) := by
      unfold lvNext
      rw [if_neg (by decide), if_pos rfl]
    rw [en] at ac
    simp only [nx9]
    by_cases hd : s.del = []
    · rw [if_pos hd] at ac ⊢
      exact st9_end (s' := s) (fa := m_Leaving_accept) (fe := m_Leaving_request) (ce := 7) w hth hL ht hN ⟨c1, ok_non⟩ trivial rfl rfl rfl (ab.write (v := none) w.b.wf c1) (fun x1 G1 z _ => ac x1 G1 z) rfl (endL rfl)
    · rw [if_neg hd] at ac ⊢
      exact st9_go (mc' := .l32) (s' := s) (fa := m_Leaving_accept) w hth hL ht hN ⟨c1, ok_non⟩ trivial rfl rfl rfl (ab.write (v := none) w.b.wf c1) (fun x1 G1 z _ => ac x1 G1 z)
  | l32 =>
    refine st9_go (mc' := scan9 E (othN t th)) (s' := s) (fa := m_Leaving_accept) w hth hL ht hN c0 trivial rfl rfl rfl ab.read fun x1 G1 z _ => ?_
    show ∃ G3 D', m_Leaving_accept [.obj S, (m.acc th (.read 0)).1] G1 = _ ∧ _
    rw [acc_read, ab.ep, scan9_ob]
    exact lva (.inr (.inr (.inl ⟨rfl, _, rfl⟩))) x1 G1 z
  | l31 e o os =>
    have ho : o < t := ok o (List.mem_cons_self ..)
    have co : 1 + o < m.cells := by omega
    have hv : m.cur (1 + o) = .non ∨ ∃ i, m.cur (1 + o) = .int i := by
      rw [ab.sl o ho]
      cases sl o with
      | none => exact .inl rfl
      | some i => exact .inr ⟨i, rfl⟩
    have ac := fun x1 G1 (z : W9 (N + 1) t x1 (m.acc th (.read (1 + o))).2 (stkP K ML S (lvOb S0 (.int e) (nI (o :: os)) 31) ++ stoP S0 D s ++ R) G1) => lva (v := m.cur (1 + o)) (u := .int ((m.count : Int) + 1)) (.inr (.inr (.inr (.inl ⟨rfl, by simp [nI], ⟨_, rfl⟩, hv⟩)))) x1 G1 z
    have go : ¬ (m.cur (1 + o) ≠ .non ∧ m.cur (1 + o) ≠ .int e) → St9 N t th x m G K ML S S0 R (Mc9.rq th (.l31 e o os)) ⟨E, sl, s, some (scan9 e os), .non⟩ := fun hc => by
      have en : lvNext s (.int e) (nI (o :: os)) 31 (m.cur (1 + o)) = (s, .int e, nI os, if nI os = [] then 29 else 31) := by
        unfold lvNext
        rw [if_neg (by decide), if_neg (by decide), if_neg (by decide), if_pos rfl, if_neg hc]
        rfl
      rw [en] at ac
      refine st9_go (mc' := scan9 e os) (s' := s) (fa := m_Leaving_accept) w hth hL ht hN co trivial rfl rfl rfl ab.read fun x1 G1 z _ => ?_
      show ∃ G3 D', m_Leaving_accept [.obj S, (m.acc th (.read (1 + o))).1] G1 = _ ∧ _
      rw [acc_read, scan9_ob]
      exact ac x1 G1 z
    simp only [nx9]
    cases hs : sl o with
    | none =>
      refine go fun h => h.1 ?_
      rw [ab.sl o ho, hs]
      rfl
    | some v =>
      by_cases he : v = e
      · simp only [if_pos he]
        refine go fun h => h.2 ?_
        rw [ab.sl o ho, hs, he]
        rfl
      · simp only [if_neg he]
        have hc : m.cur (1 + o) ≠ .non ∧ m.cur (1 + o) ≠ .int e := by
          rw [ab.sl o ho, hs]
          exact ⟨(fun z => by cases z), (fun z => by cases z; exact he rfl)⟩
        have en : lvNext s (.int e) (nI (o :: os)) 31 (m.cur (1 + o)) = (s.release e, .int e, nI (o :: os), 14) := by
          unfold lvNext
          rw [if_neg (by decide), if_neg (by decide), if_neg (by decide), if_pos rfl, if_pos hc]
          rfl
        rw [en] at ac
        refine st9_end (s' := s.release e) (fa := m_Leaving_accept) (fe := m_Leaving_request) (ce := 7) w hth hL ht hN co trivial rfl rel_L9.2.1 rel_L9.1 ab.read (fun x1 G1 z _ => ?_) rfl (endL (ep := .int e) (others := nI (o :: os)) rel_L9.1)
        show ∃ G3 D', m_Leaving_accept [.obj S, (m.acc th (.read (1 + o))).1] G1 = _ ∧ _
        rw [acc_read]
        exact ac x1 G1 z
  | l29 e =>
    have en : ∀ b : Bool, lvNext s (.int e) (nI []) 29 (.bl b) = (s.release (e + intOf (.bl b)), .int e, nI [], 14) := fun b => by
      unfold lvNext
      rw [if_neg (by decide), if_neg (by decide), if_neg (by decide), if_neg (by decide)]
      rfl
    have ac := fun (b : Bool) x1 G1 (z : W9 (N + 1) t x1 (m.acc th (.swap 0 (.int e) (.int (e + 1)))).2 (stkP K ML S (lvOb S0 (.int e) (nI []) 29) ++ stoP S0 D s ++ R) G1) => lva (v := .bl b) (u := .int ((m.count : Int) + 1)) (.inr (.inr (.inr (.inr ⟨rfl, ⟨_, rfl⟩, b, rfl⟩)))) x1 G1 z
    simp only [nx9]
    by_cases he : E = e
    · subst he
      rw [if_pos rfl]
      have a := ac true
      rw [en] at a
      refine st9_end (s' := s.release (E + 1)) (vse := [.obj S0, .int E, .fro ((nI []).map .int), .str 14]) (fa := m_Leaving_accept) (fe := m_Leaving_request) (ce := 7) w hth hL ht hN ⟨c0, ok_int, ok_int⟩ trivial rfl rel_L9.2.1 rel_L9.1 (ab.swapT w.b.wf c0) (fun x1 G1 z _ => ?_) rfl (endL (others := nI []) rel_L9.1)
      show ∃ G3 D', m_Leaving_accept [.obj S, (m.acc th (.swap 0 (.int E) (.int (E + 1)))).1] G1 = _ ∧ _
      rw [acc_swapT (by rw [ab.ep]; exact same_int)]
      exact a x1 G1 z
    · rw [if_neg he]
      have a := ac false
      rw [en] at a
      have e0 : e + intOf (.bl false) = e := by simp [intOf]
      rw [e0] at a
      refine st9_end (s' := s.release e) (vse := [.obj S0, .int e, .fro ((nI []).map .int), .str 14]) (fa := m_Leaving_accept) (fe := m_Leaving_request) (ce := 7) w hth hL ht hN ⟨c0, ok_int, ok_int⟩ trivial rfl rel_L9.2.1 rel_L9.1 (ab.swapF he) (fun x1 G1 z _ => ?_) rfl (endL (others := nI []) rel_L9.1)
      show ∃ G3 D', m_Leaving_accept [.obj S, (m.acc th (.swap 0 (.int e) (.int (e + 1)))).1] G1 = _ ∧ _
      rw [acc_swapF (by rw [ab.ep]; exact same_int_ne he)]
      exact a x1 G1 z
end
/-! ### release, as a fold and a filter -/
section
variable {s : Sto} {e : Int}
def relF (e : Int) : List Int → List (Int × List Int) → List Int
  | sp, [] => sp
  | sp, q :: l => relF e (if q.1 ≤ e - 3 then sortI (sp ++ q.2) else sp) l
def keepF (e : Int) (l : List (Int × List Int)) : List (Int × List Int) := l.filter fun q => decide (e - 3 < q.1)
theorem rel_eq : ∀ (l : List (Int × List Int)) (s : Sto) (acc : List (Int × List Int)), (l.foldl (relStep e) (s, acc)).1.spare = relF e s.spare l ∧ (l.foldl (relStep e) (s, acc)).2 = acc ++ keepF e l
  | [], s, acc => ⟨rfl, by simp [keepF]⟩
  | q :: l, s, acc => by
    rw [List.foldl_cons]
    by_cases h : q.1 ≤ e - 3
    · have e1 : relStep e (s, acc) q = (s.back q.2, acc) := if_pos h
      rw [e1]
      obtain ⟨a, b⟩ := rel_eq l (s.back q.2) acc
      refine ⟨by rw [a]; conv => rhs; unfold relF
                 rw [if_pos h]; rfl, ?_⟩
      rw [b]
      unfold keepF
      rw [List.filter_cons, if_neg (by simp; omega)]
    · have e1 : relStep e (s, acc) q = (s, acc ++ [q]) := if_neg h
      rw [e1]
      obtain ⟨a, b⟩ := rel_eq l s (acc ++ [q])
      refine ⟨by rw [a]; conv => rhs; unfold relF
                 rw [if_neg h], ?_⟩
      rw [b]
      unfold keepF
      rw [List.filter_cons, if_pos (by simp; omega), List.append_assoc]
      rfl
theorem rel_sp : (s.release e).spare = relF e s.spare s.del := (rel_eq s.del s []).1
theorem rel_de : (s.release e).del = keepF e s.del := by
  show (s.del.foldl (relStep e) (s, [])).2 = _
  rw [(rel_eq s.del s []).2, List.nil_append]
theorem plnL_8 {k : Nat} : ∀ {l : List Val}, (∀ v ∈ l, pln k v = true) → plnL k l = true
  | [], _ => rfl
  | v :: l, h => by
    show (pln k v && plnL k l) = true
    rw [Bool.and_eq_true_iff]
    exact ⟨h v (List.mem_cons_self ..), plnL_8 fun w hw => h w (List.mem_cons_of_mem _ hw)⟩
theorem pln_ints {k : Nat} {l : List Int} : pln (k + 1) (.fro (l.map .int)) = true := plnL_8 fun v hv => by
  obtain ⟨i, _, rfl⟩ := List.mem_map.mp hv
  cases k <;> rfl
end
/-! ### law k09: the invariant, plain -/
section
abbrev Cs := List (Int × Int)
structure Rw9 where
  cell : Int
  a1 : Nat
  a2 : Nat
  l1 : Cs
  l2 : Cs
structure Th9 where
  S0 : Nat
  D : Nat
  s : Sto
  ph : Nat
  K : Nat
  ML : Nat
  S : Nat
  sk : Option (Option Mc9 × Val)
  rows : List Rw9
variable {t i j : Nat} {E E' e : Int} {sl sl' : Nat → Option Int} {act act' : Cs} {ser ser' : Int} {shl shl' : List (Option Int)} {fs : List (List Int)} {Ts : List Th9} {T T' : Th9} {s s' : Sto} {r : Rw9} {first : List Int} {out : List Int}
def isA (act : Cs) (i : Nat) : Prop := ∃ k, ((i : Int), k) ∈ act
structure Ga9 (t : Nat) (E : Int) (sl : Nat → Option Int) (act : Cs) (ser : Int) (shl : List (Option Int)) : Prop where
  a : ∀ c ∈ act, ∃ j : Nat, c.1 = (j : Int) ∧ j < t ∧ c.2 ≤ ser ∧ ∃ e, sl j = some e ∧ shl[j]? = some (some e) ∧ e ≤ E ∧ E ≤ e + 1
structure Rk9 (E : Int) (sl : Nat → Option Int) (act : Cs) (ser : Int) (s : Sto) (r : Rw9) : Prop where
  bnd : ∃ B, B ≤ E ∧ (∀ c ∈ act, c ∈ r.l1 → ∀ e, sl c.1.toNat = some e → e ≤ B) ∧ (∀ c ∈ act, c ∈ r.l2 → ∀ e, sl c.1.toNat = some e → e ≤ B + 1) ∧ ∀ q ∈ s.del, r.cell ∈ q.2 → B ≤ q.1
  fre : r.cell ∈ s.spare → ∀ c ∈ act, c ∉ r.l1 ∧ c ∉ r.l2
  old : ∀ c ∈ r.l1 ++ r.l2, c.2 ≤ ser
def Pass9 (t i : Nat) (E : Int) (sl : Nat → Option Int) (act : Cs) (e : Int) (rest : List Nat) : Prop := e ≤ E ∧ (e = E → ∀ j, j < t → j ≠ i → j ∉ rest → isA act j → sl j = some e)
inductive Ph9 (t i : Nat) (E : Int) (sl : Nat → Option Int) (act : Cs) (out : List Int) : Nat → Option (Option Mc9 × Val) → Prop
  | out33 (sk) : sl i = none → out = [] → ¬ isA act i → Ph9 t i E sl act out 33 sk
  | ent2 (v) : sl i = none → out = [] → ¬ isA act i → Ph9 t i E sl act out 36 (some (some .e2, v))
  | ent3 (e v) : out = [] → ¬ isA act i → Ph9 t i E sl act out 36 (some (some (.e3 e), v))
  | ent27 (e v) : sl i = some e → out = [] → ¬ isA act i → Ph9 t i E sl act out 36 (some (some (.e27 e), v))
  | entE (v) : out = [] → isA act i → Ph9 t i E sl act out 36 (some (none, v))
  | in34 (sk) : isA act i → Ph9 t i E sl act out 34 sk
  | lv30 (v) : isA act i → Ph9 t i E sl act out 35 (some (some .l30, v))
  | lv28 (v) : out = [] → isA act i → Ph9 t i E sl act out 35 (some (some .l28, v))
  | lv32 (v) : sl i = none → out = [] → ¬ isA act i → Ph9 t i E sl act out 35 (some (some .l32, v))
  | lv31 (e o os v) : sl i = none → out = [] → ¬ isA act i → Pass9 t i E sl act e (o :: os) → (∀ k ∈ o :: os, k < t) → Ph9 t i E sl act out 35 (some (some (.l31 e o os), v))
  | lv29 (e v) : sl i = none → out = [] → ¬ isA act i → Pass9 t i E sl act e [] → Ph9 t i E sl act out 35 (some (some (.l29 e), v))
  | lvE (v) : sl i = none → out = [] → ¬ isA act i → Ph9 t i E sl act out 35 (some (none, v))
structure Ti9 (t i : Nat) (E : Int) (sl : Nat → Option Int) (act : Cs) (first : List Int) (T : Th9) : Prop where
  th : T.s.th = i
  perm : (T.s.spare ++ T.s.out ++ T.s.del.flatMap (·.2)).Perm first
  stE : ∀ q ∈ T.s.del, q.1 ≤ E
  ph : Ph9 t i E sl act T.s.out T.ph T.sk
structure I9 (t : Nat) (E : Int) (sl : Nat → Option Int) (act : Cs) (ser : Int) (shl : List (Option Int)) (fs : List (List Int)) (Ts : List Th9) : Prop where
  lT : Ts.length = t
  lS : shl.length = t
  lF : fs.length = t
  fo : ∀ f ∈ fs, f.Nodup ∧ f.Pairwise (· ≤ ·)
  ga : Ga9 t E sl act ser shl
  ti : ∀ (i : Nat) (T : Th9) (f : List Int), Ts[i]? = some T → fs[i]? = some f → Ti9 t i E sl act f T
  rk : ∀ T ∈ Ts, ∀ r ∈ T.rows, Rk9 E sl act ser T.s r
theorem Rk9.mv (h : Rk9 E sl act ser s r) (ga : Ga9 t E' sl' act' ser' shl') (hE : E ≤ E') (hser : ser ≤ ser') (ha : ∀ c ∈ act', c ∈ r.l1 ++ r.l2 → c ∈ act ∧ sl' c.1.toNat = sl c.1.toNat) (hd : ∀ q ∈ s'.del, q ∈ s.del ∨ E ≤ q.1) (hs : ∀ x ∈ s'.spare, x ∈ s.spare ∨ ∃ q ∈ s.del, x ∈ q.2 ∧ q.1 ≤ E' - 3) : Rk9 E' sl' act' ser' s' r := by
  obtain ⟨B, b1, b2, b3, b4⟩ := h.bnd
  have g2 : ∀ c ∈ act', c ∈ r.l1 ++ r.l2 → ∃ e, sl c.1.toNat = some e ∧ E' ≤ e + 1 := fun c hc hl => by
    obtain ⟨j, e1, _, _, e, e2, _, _, e3⟩ := ga.a c hc
    obtain ⟨_, e4⟩ := ha c hc hl
    have : c.1.toNat = j := by omega
    rw [this] at e4 ⊢
    exact ⟨e, e4 ▸ e2, e3⟩
  refine ⟨⟨B, Int.le_trans b1 hE, fun c hc hl e he => ?_, fun c hc hl e he => ?_, fun q hq hc => ?_⟩, fun hc c hac => ?_, fun c hc => Int.le_trans (h.old c hc) hser⟩
  · obtain ⟨h1, h2⟩ := ha c hc (List.mem_append_left _ hl)
    exact b2 c h1 hl e (h2 ▸ he)
  · obtain ⟨h1, h2⟩ := ha c hc (List.mem_append_right _ hl)
    exact b3 c h1 hl e (h2 ▸ he)
  · rcases hd q hq with hq | hq
    · exact b4 q hq hc
    · omega
  · rcases hs _ hc with hc | ⟨q, hq, hx, hp⟩
    · refine ⟨fun z => ?_, fun z => ?_⟩
      · exact (h.fre hc c (ha c hac (List.mem_append_left _ z)).1).1 z
      · exact (h.fre hc c (ha c hac (List.mem_append_right _ z)).1).2 z
    · have hB := b4 q hq hx
      refine ⟨fun z => ?_, fun z => ?_⟩
      · obtain ⟨e, e1, e2⟩ := g2 c hac (List.mem_append_left _ z)
        have := b2 c (ha c hac (List.mem_append_left _ z)).1 z e e1
        omega
      · obtain ⟨e, e1, e2⟩ := g2 c hac (List.mem_append_right _ z)
        have := b3 c (ha c hac (List.mem_append_right _ z)).1 z e e1
        omega
/-- what one thread's step may change for the others -/
structure Ch9 (t i : Nat) (E E' : Int) (sl sl' : Nat → Option Int) (act act' : Cs) (ser ser' : Int) : Prop where
  cE : E ≤ E'
  cs : ser ≤ ser'
  cl : ∀ j, j ≠ i → sl' j = sl j
  a1 : ∀ c ∈ act', c ∈ act ∨ (c = ((i : Int), ser + 1))
  a2 : ∀ c ∈ act, c.1 ≠ (i : Int) → c ∈ act'
  a3 : ∀ k, ((i : Int), k) ∈ act' → ((i : Int), k) ∈ act → sl' i = sl i
  a4 : E' = E → isA act' i → sl' i = some E ∨ (isA act i ∧ sl' i = sl i)
theorem Ch9.isA (h : Ch9 t i E E' sl sl' act act' ser ser') (hj : j ≠ i) : isA act' j ↔ isA act j := by
  constructor
  · rintro ⟨k, hk⟩
    rcases h.a1 _ hk with hk | hk
    · exact ⟨k, hk⟩
    · have := congrArg Prod.fst hk
      simp at this
      omega
  · rintro ⟨k, hk⟩
    exact ⟨k, h.a2 _ hk (by simp; omega)⟩
theorem Ch9.ps (h : Ch9 t i E E' sl sl' act act' ser ser') (hj : j ≠ i) {rest : List Nat} (p : Pass9 t j E sl act e rest) : Pass9 t j E' sl' act' e rest := by
  have hE := h.cE
  refine ⟨Int.le_trans p.1 h.cE, fun he k hk hkj hkr hka => ?_⟩
  have hEE : E' = E := by have := p.1; omega
  have he' : e = E := he.trans hEE
  by_cases hki : k = i
  · subst hki
    rcases h.a4 hEE hka with z | ⟨z1, z2⟩
    · rw [z, he']
    · rw [z2]
      exact p.2 he' k hk hkj hkr z1
  · rw [h.cl k hki]
    exact p.2 he' k hk hkj hkr ((h.isA hki).mp hka)
theorem Ch9.ph (h : Ch9 t i E E' sl sl' act act' ser ser') (hj : j ≠ i) {ph : Nat} {sk : Option (Option Mc9 × Val)} (p : Ph9 t j E sl act out ph sk) : Ph9 t j E' sl' act' out ph sk := by
  have hs := h.cl j hj
  have hA := h.isA hj
  cases p with
  | out33 sk a b c => exact .out33 sk (hs.trans a) b (fun z => c (hA.mp z))
  | ent2 v a b c => exact .ent2 v (hs.trans a) b (fun z => c (hA.mp z))
  | ent3 e v b c => exact .ent3 e v b (fun z => c (hA.mp z))
  | ent27 e v a b c => exact .ent27 e v (hs.trans a) b (fun z => c (hA.mp z))
  | entE v a b => exact .entE v a (hA.mpr b)
  | in34 sk a => exact .in34 sk (hA.mpr a)
  | lv30 v a => exact .lv30 v (hA.mpr a)
  | lv28 v a b => exact .lv28 v a (hA.mpr b)
  | lv32 v a b c => exact .lv32 v (hs.trans a) b (fun z => c (hA.mp z))
  | lv31 e o os v a b c d f => exact .lv31 e o os v (hs.trans a) b (fun z => c (hA.mp z)) (h.ps hj d) f
  | lv29 e v a b c d => exact .lv29 e v (hs.trans a) b (fun z => c (hA.mp z)) (h.ps hj d)
  | lvE v a b c => exact .lvE v (hs.trans a) b (fun z => c (hA.mp z))
/-- rows keep their calls' slots -/
theorem Ch9.ha (h : Ch9 t i E E' sl sl' act act' ser ser') (ga : Ga9 t E sl act ser shl) (k : Rk9 E sl act ser s r) : ∀ c ∈ act', c ∈ r.l1 ++ r.l2 → c ∈ act ∧ sl' c.1.toNat = sl c.1.toNat := fun c hc hl => by
  have h1 : c ∈ act := by
    rcases h.a1 c hc with z | z
    · exact z
    · have := k.old c hl
      rw [z] at this
      simp at this
      omega
  refine ⟨h1, ?_⟩
  obtain ⟨j, e1, _⟩ := ga.a c h1
  have e2 : c.1.toNat = j := by omega
  rw [e2]
  by_cases hj : j = i
  · subst hj
    obtain ⟨c1, c2⟩ := c
    simp at e1
    subst e1
    exact h.a3 c2 hc h1
  · exact h.cl j hj
/-- one thread's step -/
theorem I9.upd (h : I9 t E sl act ser shl fs Ts) (hi : Ts[i]? = some T) (hf : fs[i]? = some first) (ch : Ch9 t i E E' sl sl' act act' ser ser') (hl : shl'.length = t) (ga : Ga9 t E' sl' act' ser' shl') (ti : Ti9 t i E' sl' act' first T') (rk : ∀ r ∈ T'.rows, Rk9 E' sl' act' ser' T'.s r) : I9 t E' sl' act' ser' shl' fs (Ts.set i T') := by
  obtain ⟨hlt, hTi⟩ := List.getElem?_eq_some_iff.mp hi
  refine ⟨by rw [List.length_set]; exact h.lT, hl, h.lF, h.fo, ga, fun j U f hj hfj => ?_, fun U hU r hr => ?_⟩
  · by_cases hji : j = i
    · subst hji
      rw [List.getElem?_set_self hlt] at hj
      cases hj
      rw [hf] at hfj
      cases hfj
      exact ti
    · rw [List.getElem?_set_ne (Ne.symm hji)] at hj
      obtain ⟨a, b, c, d⟩ := h.ti j U f hj hfj
      exact ⟨a, b, fun q hq => Int.le_trans (c q hq) ch.cE, ch.ph hji d⟩
  · rcases List.mem_or_eq_of_mem_set hU with hU | rfl
    · have k := h.rk U hU r hr
      exact k.mv ga ch.cE ch.cs (ch.ha h.ga k) (fun q hq => .inl hq) fun x hx => .inl hx
    · exact rk r hr
theorem Ch9.refl : Ch9 t i E E sl sl act act ser ser := ⟨Int.le_refl _, Int.le_refl _, fun _ _ => rfl, fun _ h => .inl h, fun _ h _ => h, fun _ _ _ => rfl, fun _ h => .inr ⟨h, rfl⟩⟩
theorem I9.get (h : I9 t E sl act ser shl fs Ts) (hi : i < t) : ∃ T f, Ts[i]? = some T ∧ fs[i]? = some f ∧ Ti9 t i E sl act f T := by
  have h1 : i < Ts.length := by rw [h.lT]; exact hi
  have h2 : i < fs.length := by rw [h.lF]; exact hi
  exact ⟨Ts[i], fs[i], List.getElem?_eq_getElem h1, List.getElem?_eq_getElem h2, h.ti i _ _ (List.getElem?_eq_getElem h1) (List.getElem?_eq_getElem h2)⟩
/-- another phase -/
theorem I9.setPh (h : I9 t E sl act ser shl fs Ts) (hi : Ts[i]? = some T) (h1 : T'.s = T.s) (h2 : T'.rows = T.rows) (hp : Ph9 t i E sl act T.s.out T'.ph T'.sk) : I9 t E sl act ser shl fs (Ts.set i T') := by
  obtain ⟨hlt, hTi⟩ := List.getElem?_eq_some_iff.mp hi
  have hlf : i < fs.length := by rw [h.lF, ← h.lT]; exact hlt
  obtain ⟨a, b, c, d⟩ := h.ti i T _ hi (List.getElem?_eq_getElem hlf)
  exact h.upd hi (List.getElem?_eq_getElem hlf) Ch9.refl h.lS h.ga ⟨by rw [h1]; exact a, by rw [h1]; exact b, by rw [h1]; exact c, by rw [h1]; exact hp⟩ fun r hr => by
    rw [h1]
    exact h.rk T (List.mem_of_getElem? hi) r (by rw [← h2]; exact hr)
end
/-! ### law k09: the invariant over a machine's step -/
section
variable {t i j : Nat} {E E' e : Int} {sl sl' : Nat → Option Int} {act act' : Cs} {ser ser' : Int} {shl shl' : List (Option Int)} {fs : List (List Int)} {Ts : List Th9} {T T' : Th9} {s s' : Sto} {r : Rw9} {first : List Int} {out : List Int} {mc : Mc9} {v : Val}
theorem relF_mem {x : Int} : ∀ {l : List (Int × List Int)} {sp : List Int}, x ∈ relF e sp l → x ∈ sp ∨ ∃ q ∈ l, x ∈ q.2 ∧ q.1 ≤ e - 3
  | [], sp, h => .inl h
  | q :: l, sp, h => by
    unfold relF at h
    rcases relF_mem h with h | ⟨p, hp, h2⟩
    · split at h
      · rename_i hq
        rcases List.mem_append.mp ((sortI_perm _).mem_iff.mp h) with h | h
        · exact .inl h
        · exact .inr ⟨q, List.mem_cons_self .., h, hq⟩
      · exact .inl h
    · exact .inr ⟨p, List.mem_cons_of_mem _ hp, h2⟩
theorem relF_perm : ∀ (l : List (Int × List Int)) (sp : List Int), (relF e sp l ++ (keepF e l).flatMap (·.2)).Perm (sp ++ l.flatMap (·.2))
  | [], sp => by simp [relF, keepF]
  | q :: l, sp => by
    unfold relF
    by_cases h : q.1 ≤ e - 3
    · rw [if_pos h]
      have : keepF e (q :: l) = keepF e l := by unfold keepF; rw [List.filter_cons, if_neg (by simp; omega)]
      rw [this]
      refine (relF_perm l _).trans ?_
      rw [List.flatMap_cons, ← List.append_assoc]
      exact (sortI_perm _).append_right _
    · rw [if_neg h]
      have : keepF e (q :: l) = q :: keepF e l := by unfold keepF; rw [List.filter_cons, if_pos (by simp; omega)]
      rw [this, List.flatMap_cons, List.flatMap_cons]
      have ih := relF_perm l sp
      refine (List.perm_append_comm_assoc _ _ _).trans ?_
      refine (List.Perm.append_left q.2 ih).trans ?_
      exact List.perm_append_comm_assoc _ _ _
theorem rel_perm9 : ((s.release e).spare ++ (s.release e).out ++ (s.release e).del.flatMap (·.2)).Perm (s.spare ++ s.out ++ s.del.flatMap (·.2)) := by
  rw [rel_sp, rel_de, rel_L9.2.2]
  have h := relF_perm (e := e) s.del s.spare
  rw [List.append_assoc, List.append_assoc]
  refine (List.perm_append_comm_assoc _ _ _).trans ?_
  refine (List.Perm.append_left s.out h).trans ?_
  exact List.perm_append_comm_assoc _ _ _
theorem stamp_perm9 {E : Int} : ((s.stamp E).spare ++ (s.stamp E).out ++ (s.stamp E).del.flatMap (·.2)).Perm (s.spare ++ s.out ++ s.del.flatMap (·.2)) := by
  show (s.spare ++ [] ++ ((s.del ++ [(E, s.out)]).flatMap fun (q : Int × List Int) => q.2)).Perm _
  rw [List.flatMap_append, List.append_nil, List.append_assoc]
  refine List.Perm.append_left s.spare ?_
  simp only [List.flatMap_cons, List.flatMap_nil, List.append_nil]
  exact List.perm_append_comm
def actN (i : Nat) (E ser : Int) (act : Cs) : Mc9 → Cs
  | .e27 e => if E = e then act ++ [((i : Int), ser + 1)] else act
  | .l28 => act.filter fun c => decide (c.1 ≠ (i : Int))
  | _ => act
def serN (E ser : Int) : Mc9 → Int
  | .e27 e => if E = e then ser + 1 else ser
  | _ => ser
def shlN (i : Nat) (E : Int) (shl : List (Option Int)) : Mc9 → List (Option Int)
  | .e27 e => if E = e then shl.set i (some E) else shl
  | _ => shl
theorem Ch9.slot (ho : ¬ Dk.isA act i) {v : Option Int} : Ch9 t i E E sl (upd sl i v) act act ser ser :=
  ⟨Int.le_refl _, Int.le_refl _, fun j hj => if_neg hj, fun _ h => .inl h, fun _ h _ => h, fun k h => absurd ⟨k, h⟩ ho, fun _ h => absurd h ho⟩
theorem Ga9.slot (ga : Ga9 t E sl act ser shl) (ho : ¬ isA act i) {v : Option Int} : Ga9 t E (upd sl i v) act ser shl := ⟨fun c hc => by
  obtain ⟨j, h1, h2, h3, e, h4, h5⟩ := ga.a c hc
  refine ⟨j, h1, h2, h3, e, ?_, h5⟩
  have hj : j ≠ i := fun z => ho ⟨c.2, by rw [← z, ← h1]; exact hc⟩
  exact (if_neg hj).trans h4⟩
theorem scan_ph {e : Int} {os : List Nat} (hs : sl i = none) (ho : out = []) (hA : ¬ isA act i) (p : Pass9 t i E sl act e os) (hk : ∀ k ∈ os, k < t) : Ph9 t i E sl act out 35 (some (some (scan9 e os), v)) := by
  cases os with
  | nil => exact .lv29 e v hs ho hA p
  | cons a l => exact .lv31 e a l v hs ho hA p hk
theorem I9.stepM (h : I9 t E sl act ser shl fs Ts) (hi : Ts[i]? = some T) (hsk : T.sk = some (some mc, v)) (hph : T.ph = 36 ∨ T.ph = 35) (h1 : T'.s = (nx9 t i E sl T.s mc).s) (h2 : T'.rows = T.rows) (h3 : T'.ph = T.ph) (h4 : T'.sk = some ((nx9 t i E sl T.s mc).mc, (nx9 t i E sl T.s mc).res)) :
    I9 t (nx9 t i E sl T.s mc).E (nx9 t i E sl T.s mc).sl (actN i E ser act mc) (serN E ser mc) (shlN i E shl mc) fs (Ts.set i T') := by
  obtain ⟨hlt, hTi⟩ := List.getElem?_eq_some_iff.mp hi
  have hit : i < t := by rw [← h.lT]; exact hlt
  have hlf : i < fs.length := by rw [h.lF]; exact hit
  have hf := List.getElem?_eq_getElem hlf
  have hTm := List.mem_of_getElem? hi
  obtain ⟨tth, perm, stE, ph⟩ := h.ti i T _ hi hf
  have k0 := h.rk T hTm
  have ga := h.ga
  -- the same store
  have same : ∀ {E' sl' act' ser' shl'}, T'.s = T.s → Ch9 t i E E' sl sl' act act' ser ser' → Ga9 t E' sl' act' ser' shl' → shl'.length = t → Ph9 t i E' sl' act' T.s.out T'.ph T'.sk → I9 t E' sl' act' ser' shl' fs (Ts.set i T') := fun hs ch ga' hl p =>
    h.upd hi hf ch hl ga' ⟨by rw [hs]; exact tth, by rw [hs]; exact perm, fun q hq => Int.le_trans (stE q (by rw [hs] at hq; exact hq)) ch.cE, by rw [hs]; exact p⟩ fun r hr => by
      rw [h2] at hr
      rw [hs]
      exact (k0 r hr).mv ga' ch.cE ch.cs (ch.ha ga (k0 r hr)) (fun q hq => .inl hq) fun x hx => .inl hx
  have relS : ∀ {E' e2}, T'.s = T.s.release e2 → e2 ≤ E' → Ch9 t i E E' sl sl act act ser ser → Ga9 t E' sl act ser shl → Ph9 t i E' sl act T.s.out T'.ph T'.sk → I9 t E' sl act ser shl fs (Ts.set i T') := fun hs he ch ga' p =>
    h.upd hi hf ch h.lS ga' ⟨by rw [hs, rel_L9.2.1]; exact tth, by rw [hs]; exact rel_perm9.trans perm, fun q hq => by
      rw [hs, rel_de] at hq
      exact Int.le_trans (stE q (List.mem_filter.mp hq).1) ch.cE, by rw [hs, rel_L9.2.2]; exact p⟩ fun r hr => by
      rw [h2] at hr
      rw [hs]
      refine (k0 r hr).mv ga' ch.cE ch.cs (ch.ha ga (k0 r hr)) (fun q hq => .inl ?_) fun x hx => ?_
      · rw [rel_de] at hq
        exact (List.mem_filter.mp hq).1
      · rw [rel_sp] at hx
        rcases relF_mem hx with z | ⟨q, hq, hx, hp⟩
        · exact .inl z
        · exact .inr ⟨q, hq, hx, by omega⟩
  rw [hsk] at ph
  rw [← h3] at ph hph
  generalize hP : T'.ph = P at ph hph same relS
  have noAct : ∀ j, sl j = none → ¬ isA act j := fun j hj ⟨k, hk⟩ => by
    obtain ⟨j', e1, _, _, e, e2, _⟩ := ga.a _ hk
    have : j' = j := by simp at e1; omega
    rw [this, hj] at e2
    cases e2
  cases ph with
  | out33 _ => simp at hph
  | in34 _ => simp at hph
  | ent2 v a b c => exact same h1 Ch9.refl ga h.lS (by rw [h4]; exact .ent3 E _ b c)
  | ent3 e v b c => exact same h1 (Ch9.slot c) (ga.slot c) h.lS (by rw [h4]; exact .ent27 e _ (if_pos rfl) b c)
  | ent27 e v a b nA =>
    simp only [nx9, actN, serN, shlN] at h1 h4 ⊢
    by_cases he : E = e
    · simp only [if_pos he] at h1 h4 ⊢
      have ch : Ch9 t i E E sl sl act (act ++ [((i : Int), ser + 1)]) ser (ser + 1) := ⟨Int.le_refl _, by omega, fun _ _ => rfl, fun c hc => by
        rcases List.mem_append.mp hc with hc | hc
        · exact .inl hc
        · exact .inr (List.mem_singleton.mp hc), fun c hc _ => List.mem_append_left _ hc, fun _ _ _ => rfl, fun _ _ => .inl (by rw [a, he])⟩
      refine same h1 ch ⟨fun c hc => ?_⟩ (by rw [List.length_set]; exact h.lS) (by rw [h4]; exact .entE _ b ⟨ser + 1, by simp⟩)
      rcases List.mem_append.mp hc with hc1 | hc
      · obtain ⟨j, g1, g2, g3, e', g4, g5, g6⟩ := ga.a c hc1
        have hj : j ≠ i := fun z => by
          subst z
          exact nA ⟨c.2, by rw [← g1]; exact hc1⟩
        exact ⟨j, g1, g2, by omega, e', g4, by rw [List.getElem?_set_ne (Ne.symm hj)]; exact g5, g6⟩
      · rw [List.mem_singleton.mp hc]
        exact ⟨i, rfl, hit, Int.le_refl _, e, a, by rw [List.getElem?_set_self (by rw [h.lS]; exact hit), he], by omega, by omega⟩
    · simp only [if_neg he] at h1 h4 ⊢
      exact same h1 Ch9.refl ga h.lS (by rw [h4]; exact .ent3 E _ b nA)
  | lv30 v a =>
    refine h.upd hi hf Ch9.refl h.lS ga ⟨by rw [h1]; exact tth, by rw [h1]; exact stamp_perm9.trans perm, fun q hq => ?_, by rw [h1, h4, hP]; exact .lv28 _ rfl a⟩ fun r hr => ?_
    · rw [h1] at hq
      rcases List.mem_append.mp (show q ∈ T.s.del ++ [(E, T.s.out)] from hq) with hq | hq
      · exact stE q hq
      · rw [List.mem_singleton.mp hq]
        exact Int.le_refl _
    · rw [h2] at hr
      rw [h1]
      refine (k0 r hr).mv ga (Int.le_refl _) (Int.le_refl _) ((Ch9.refl (t := t) (i := i)).ha ga (k0 r hr)) (fun q hq => ?_) fun x hx => .inl hx
      rcases List.mem_append.mp (show q ∈ T.s.del ++ [(E, T.s.out)] from hq) with hq | hq
      · exact .inl hq
      · rw [List.mem_singleton.mp hq]
        exact .inr (Int.le_refl _)
  | lv28 v b a =>
    have nA : ¬ isA (act.filter fun c => decide (c.1 ≠ (i : Int))) i := fun ⟨k, hk⟩ => by
      have := (List.mem_filter.mp hk).2
      exact of_decide_eq_true this rfl
    refine same h1 ⟨Int.le_refl _, Int.le_refl _, fun j hj => if_neg hj, fun c hc => .inl (List.mem_filter.mp hc).1, fun c hc hn => List.mem_filter.mpr ⟨hc, by simpa using hn⟩, fun k hk => absurd ⟨k, hk⟩ nA, fun _ hA => absurd hA nA⟩ ⟨fun c hc => ?_⟩ h.lS ?_
    · obtain ⟨hc1, hc2⟩ := List.mem_filter.mp hc
      obtain ⟨j, g1, g2, g3, e', g4, g5⟩ := ga.a c hc1
      have hj : j ≠ i := fun z => by simp [g1, z] at hc2
      exact ⟨j, g1, g2, g3, e', (if_neg hj).trans g4, g5⟩
    · rw [h4]
      simp only [nx9]
      split
      · exact .lvE _ (if_pos rfl) b nA
      · exact .lv32 _ (if_pos rfl) b nA
  | lv32 v a b c =>
    refine same h1 Ch9.refl ga h.lS (by rw [h4]; exact scan_ph a b c ⟨Int.le_refl _, fun _ j hj hji hn => absurd (List.mem_filter.mpr ⟨List.mem_range'.mpr ⟨j, hj, by simp⟩, by simpa using hji⟩) hn⟩ fun k hk => (by obtain ⟨z, hz, e⟩ := List.mem_range'.mp (List.mem_filter.mp hk).1; omega))
  | lv31 e o os v a b c d f =>
    have go : (sl o = none ∨ sl o = some e) → Ph9 t i E sl act T.s.out 35 (some (some (scan9 e os), .non)) := fun ho => scan_ph a b c ⟨d.1, fun he j hj hji hn hA => by
      by_cases hjo : j = o
      · subst hjo
        rcases ho with ho | ho
        · exact absurd hA (noAct j ho)
        · exact ho
      · exact d.2 he j hj hji (fun z => (List.mem_cons.mp z).elim hjo hn) hA⟩ fun k hk => f k (List.mem_cons_of_mem _ hk)
    simp only [nx9] at h1 h4 ⊢
    cases hs : sl o with
    | none =>
      simp only [hs] at h1 h4 ⊢
      exact same h1 Ch9.refl ga h.lS (by rw [h4]; exact go (.inl hs))
    | some w =>
      simp only [hs] at h1 h4 ⊢
      by_cases he : w = e
      · simp only [if_pos he] at h1 h4 ⊢
        exact same h1 Ch9.refl ga h.lS (by rw [h4]; exact go (.inr (by rw [hs, he])))
      · simp only [if_neg he] at h1 h4 ⊢
        exact relS h1 d.1 Ch9.refl ga (by rw [h4]; exact .lvE _ a b c)
  | lv29 e v a b c d =>
    simp only [nx9] at h1 h4 ⊢
    by_cases he : E = e
    · simp only [if_pos he] at h1 h4 ⊢
      rw [← he]
      rw [← he] at h1
      have ch : Ch9 t i E (E + 1) sl sl act act ser ser := ⟨by omega, Int.le_refl _, fun _ _ => rfl, fun _ h => .inl h, fun _ h _ => h, fun _ _ _ => rfl, fun z => by omega⟩
      refine relS h1 (Int.le_refl _) ch ⟨fun c' hc => ?_⟩ (by rw [h4]; exact .lvE _ a b c)
      obtain ⟨j, g1, g2, g3, e', g4, g5, g6, g7⟩ := ga.a c' hc
      have hj : isA act j := ⟨c'.2, by rw [← g1]; exact hc⟩
      have hji : j ≠ i := fun z => c (z ▸ hj)
      have := d.2 he.symm j g2 hji (by simp) hj
      rw [g4] at this
      have := Option.some.inj this
      exact ⟨j, g1, g2, g3, e', g4, g5, by omega, by omega⟩
    · simp only [if_neg he] at h1 h4 ⊢
      exact relS h1 d.1 Ch9.refl ga (by rw [h4]; exact .lvE _ a b c)
end
/-! ### law k09: the invariant in a call, and what the law asks -/
section
variable {t i j n : Nat} {E E' e : Int} {sl sl' : Nat → Option Int} {act act' : Cs} {ser ser' : Int} {shl shl' : List (Option Int)} {fs : List (List Int)} {Ts : List Th9} {T T' : Th9} {s s' : Sto} {r : Rw9} {first : List Int} {out : List Int} {mc : Mc9} {v : Val}
theorem Ti9.nd (h : Ti9 t i E sl act first T) (hf : first.Nodup) : (T.s.spare ++ T.s.out ++ T.s.del.flatMap (·.2)).Nodup := h.perm.nodup_iff.mpr hf
theorem I9.inn (h : I9 t E sl act ser shl fs Ts) (hi : Ts[i]? = some T) {news : List Rw9} (hn : n ≤ T.s.spare.length) (h1 : T'.s = { T.s with spare := T.s.spare.drop n, out := T.s.out ++ T.s.spare.take n }) (h2 : T'.rows = T.rows.filter (fun r => decide (r.cell ∉ T.s.spare.take n)) ++ news) (hnew : ∀ r ∈ news, r.cell ∈ T.s.spare.take n ∧ r.l1 = act ∧ r.l2 = act) (hp : Ph9 t i E sl act (T.s.out ++ T.s.spare.take n) T'.ph T'.sk) : I9 t E sl act ser shl fs (Ts.set i T') := by
  obtain ⟨hlt, hTi⟩ := List.getElem?_eq_some_iff.mp hi
  have hlf : i < fs.length := by rw [h.lF, ← h.lT]; exact hlt
  have hf := List.getElem?_eq_getElem hlf
  have ti := h.ti i T _ hi hf
  have nd := ti.nd (h.fo _ (List.getElem_mem hlf)).1
  have k0 := h.rk T (List.mem_of_getElem? hi)
  refine h.upd hi hf Ch9.refl h.lS h.ga ⟨by rw [h1]; exact ti.th, ?_, by rw [h1]; exact ti.stE, by rw [h1]; exact hp⟩ fun r hr => ?_
  · rw [h1]
    refine List.Perm.trans ?_ ti.perm
    refine List.Perm.append_right _ ?_
    show (T.s.spare.drop n ++ (T.s.out ++ T.s.spare.take n)).Perm _
    have e : (T.s.spare.take n ++ T.s.spare.drop n ++ T.s.out).Perm (T.s.spare ++ T.s.out) := by rw [List.take_append_drop]
    refine List.Perm.trans ?_ e
    rw [← List.append_assoc, List.append_assoc (T.s.spare.take n)]
    exact List.perm_append_comm
  · rw [h2] at hr
    rcases List.mem_append.mp hr with hr | hr
    · have k := k0 r (List.mem_filter.mp hr).1
      rw [h1]
      exact k.mv h.ga (Int.le_refl _) (Int.le_refl _) ((Ch9.refl (t := t) (i := i)).ha h.ga k) (fun q hq => .inl hq) fun x hx => .inl (List.mem_of_mem_drop hx)
    · obtain ⟨hc, e1, e2⟩ := hnew r hr
      have hsp := List.mem_of_mem_take hc
      have g : ∀ c ∈ act, ∀ e, sl c.1.toNat = some e → e ≤ E := fun c hc e he => by
        obtain ⟨j, g1, _, _, e', g4, _, g5, _⟩ := h.ga.a c hc
        have : c.1.toNat = j := by omega
        rw [this, g4] at he
        cases he
        exact g5
      rw [h1]
      refine ⟨⟨E, Int.le_refl _, fun c hc _ => g c hc, fun c hc _ e he => by have := g c hc e he; omega, fun q hq hcq => ?_⟩, fun hd => ?_, fun c hc => ?_⟩
      · rw [List.append_assoc] at nd
        exact absurd rfl ((List.nodup_append.mp nd).2.2 _ hsp _ (List.mem_append_right _ (List.mem_flatMap.mpr ⟨q, hq, hcq⟩)))
      · rw [List.append_assoc] at nd
        have := (List.nodup_append.mp nd).1
        rw [← List.take_append_drop n T.s.spare] at this
        exact absurd rfl ((List.nodup_append.mp this).2.2 _ hc _ hd)
      · rw [e1, e2] at hc
        have hc' : c ∈ act := (List.mem_append.mp hc).elim id id
        obtain ⟨j, _, _, g3, _⟩ := h.ga.a c hc'
        exact g3
def knowL (act l2 : Cs) : Cs := act.foldl (fun l c => if c ∈ l then l else l ++ [c]) l2
def knowR (act : Cs) (r : Rw9) : Rw9 := if (r.l1.filter fun c => decide (c ∈ act)) = [] then r else { r with l2 := knowL act r.l2 }
theorem knowL_mem {c : Int × Int} : ∀ {act l2 : Cs}, c ∈ knowL act l2 → c ∈ l2 ∨ c ∈ act
  | [], l2, h => .inl h
  | a :: act, l2, h => by
    unfold knowL at h
    rw [List.foldl_cons] at h
    rcases knowL_mem (act := act) h with h | h
    · split at h
      · exact .inl h
      · rcases List.mem_append.mp h with h | h
        · exact .inl h
        · exact .inr (by rw [List.mem_singleton.mp h]; exact List.mem_cons_self ..)
    · exact .inr (List.mem_cons_of_mem _ h)
theorem knowL_len : ∀ {act l2 : Cs}, (knowL act l2).length ≤ l2.length + act.length
  | [], l2 => Nat.le_refl _
  | a :: act, l2 => by
    unfold knowL
    rw [List.foldl_cons]
    have := knowL_len (act := act) (l2 := if a ∈ l2 then l2 else l2 ++ [a])
    unfold knowL at this
    have h2 : (if a ∈ l2 then l2 else l2 ++ [a]).length ≤ l2.length + 1 := by split <;> simp
    simp only [List.length_cons]
    omega
theorem Rk9.known (h : Rk9 E sl act ser s r) (ga : Ga9 t E sl act ser shl) : Rk9 E sl act ser s (knowR act r) := by
  unfold knowR
  split
  · exact h
  · rename_i hne
    obtain ⟨B, b1, b2, b3, b4⟩ := h.bnd
    obtain ⟨c0, hc0⟩ := List.exists_mem_of_ne_nil _ hne
    obtain ⟨hl0, ha0⟩ := List.mem_filter.mp hc0
    have ha0 := of_decide_eq_true ha0
    refine ⟨⟨B, b1, b2, fun c hc _ e he => ?_, b4⟩, fun hs => absurd hl0 (h.fre hs c0 ha0).1, fun c hc => ?_⟩
    · obtain ⟨j0, g1, _, _, e0, g4, _, _, g7⟩ := ga.a c0 ha0
      have q0 : c0.1.toNat = j0 := by omega
      have := b2 c0 ha0 hl0 e0 (by rw [q0]; exact g4)
      obtain ⟨j, f1, _, _, e', f4, _, f6, _⟩ := ga.a c hc
      have q1 : c.1.toNat = j := by omega
      rw [q1, f4] at he
      cases he
      omega
    · rcases List.mem_append.mp hc with hc | hc
      · exact h.old c (List.mem_append_left _ hc)
      · rcases knowL_mem hc with hc | hc
        · exact h.old c (List.mem_append_right _ hc)
        · obtain ⟨j, _, _, g3, _⟩ := ga.a c hc
          exact g3
theorem I9.known (h : I9 t E sl act ser shl fs Ts) (hi : Ts[i]? = some T) : I9 t E sl act ser shl fs (Ts.set i { T with rows := T.rows.map (knowR act) }) := by
  obtain ⟨hlt, hTi⟩ := List.getElem?_eq_some_iff.mp hi
  have hlf : i < fs.length := by rw [h.lF, ← h.lT]; exact hlt
  have hf := List.getElem?_eq_getElem hlf
  obtain ⟨a, b, c, d⟩ := h.ti i T _ hi hf
  refine h.upd hi hf Ch9.refl h.lS h.ga ⟨a, b, c, d⟩ fun r hr => ?_
  obtain ⟨q, hq, rfl⟩ := List.mem_map.mp hr
  exact (h.rk T (List.mem_of_getElem? hi) q hq).known h.ga
/-- what the law asks of a store's cells -/
theorem whole9 (h : Ti9 t i E sl act first T) (hs : first.Pairwise (· ≤ ·)) : sortI (T.s.spare ++ T.s.del.flatMap (·.2) ++ T.s.out) = first := by
  have hp : (T.s.spare ++ T.s.del.flatMap (·.2) ++ T.s.out).Perm first := by
    refine List.Perm.trans ?_ h.perm
    rw [List.append_assoc, List.append_assoc]
    exact List.Perm.append_left _ List.perm_append_comm
  exact ((sortI_perm _).trans hp).eq_of_pairwise (fun a b _ _ h1 h2 => by omega) (sortI_sorted _) hs
/-- sizes -/
structure Z9 (n b : Nat) (act : Cs) (Ts : List Th9) : Prop where
  act : act.length ≤ n
  del : ∀ T ∈ Ts, T.s.del.length ≤ n
  rows : ∀ T ∈ Ts, T.rows.length ≤ 12 * n
  l1 : ∀ T ∈ Ts, ∀ r ∈ T.rows, r.l1.length ≤ n
  l2 : ∀ T ∈ Ts, ∀ r ∈ T.rows, r.l2.length ≤ b
theorem Z9.mono {b : Nat} (h : Z9 n b act Ts) : Z9 (n + 1) b act Ts := ⟨Nat.le_succ_of_le h.act, fun T hT => Nat.le_succ_of_le (h.del T hT), fun T hT => by have := h.rows T hT; omega, fun T hT r hr => Nat.le_succ_of_le (h.l1 T hT r hr), h.l2⟩
theorem Z9.wide {b b' : Nat} (h : Z9 n b act Ts) (hb : b ≤ b') : Z9 n b' act Ts := ⟨h.act, h.del, h.rows, h.l1, fun T hT r hr => Nat.le_trans (h.l2 T hT r hr) hb⟩
/-- sizes over a change of one thread -/
theorem Z9.upd {b : Nat} {act' : Cs} (hz : Z9 n b act Ts) (hi : T ∈ Ts) (ha : act'.length ≤ act.length + 1) (h1 : T'.s.del.length ≤ T.s.del.length + 1) (h2 : T'.rows = T.rows) : Z9 (n + 1) b act' (Ts.set i T') := by
  have z := hz.mono
  have a0 := hz.act
  have d0 := hz.del T hi
  refine ⟨by omega, fun U hU => ?_, fun U hU => ?_, fun U hU r hr => ?_, fun U hU r hr => ?_⟩ <;> rcases List.mem_or_eq_of_mem_set hU with hU | rfl
  · exact z.del U hU
  · omega
  · exact z.rows U hU
  · rw [h2]; exact z.rows T hi
  · exact z.l1 U hU r hr
  · exact z.l1 T hi r (by rw [← h2]; exact hr)
  · exact z.l2 U hU r hr
  · exact z.l2 T hi r (by rw [← h2]; exact hr)
theorem knowR_same {r : Rw9} : (knowR act r).cell = r.cell ∧ (knowR act r).a1 = r.a1 ∧ (knowR act r).a2 = r.a2 ∧ (knowR act r).l1 = r.l1 := by
  unfold knowR
  split <;> exact ⟨rfl, rfl, rfl, rfl⟩
theorem knowR_len {r : Rw9} : (knowR act r).l2.length ≤ r.l2.length + act.length := by
  unfold knowR
  split
  · omega
  · exact knowL_len
theorem Z9.known {b : Nat} (hz : Z9 n b act Ts) (hi : T ∈ Ts) : Z9 n (b + n) act (Ts.set i { T with rows := T.rows.map (knowR act) }) := by
  have a0 := hz.act
  have z := hz.wide (Nat.le_add_right b n)
  refine ⟨hz.act, fun U hU => ?_, fun U hU => ?_, fun U hU r hr => ?_, fun U hU r hr => ?_⟩ <;> rcases List.mem_or_eq_of_mem_set hU with hU | rfl
  · exact z.del U hU
  · exact z.del T hi
  · exact z.rows U hU
  · show (T.rows.map _).length ≤ _
    rw [List.length_map]
    exact z.rows T hi
  · exact z.l1 U hU r hr
  · obtain ⟨q, hq, rfl⟩ := List.mem_map.mp hr
    rw [knowR_same.2.2.2]
    exact z.l1 T hi q hq
  · exact z.l2 U hU r hr
  · obtain ⟨q, hq, rfl⟩ := List.mem_map.mp hr
    have := knowR_len (act := act) (r := q)
    have := hz.l2 T hi q hq
    omega
end
/-! ### law k09: the turn's statements (printed by gen2/tree.py) -/
noncomputable def tq0 : SM := (sSet 15 (eCallF m__law_at [] (aCons (eVar 1) (aCons (eOp (fAdd true) (eVar 13) (eC (.int 1))) aNil))))
noncomputable def tq1 : SM := (sSet 14 (eOp fMod (eVar 15) (eVar 2)))
noncomputable def tq2 : SM := (sSet 16 (eOp fIx (eVar 4) (eVar 14)))
noncomputable def tq3a0 : SM := (sEx (eMeth [(1, m_Memory_access)] [] (eVar 3) (aCons (eVar 14) (aCons (eTup (aCons (eC (.str 2)) (aCons (eMeth [(0, m_Layout_word)] [] (eFld (eVar 3) [(5, 0), (1, 0)]) (aCons (eC (.int 0)) aNil)) aNil))) aNil))))
noncomputable def tq3a1 : SM := (sPut (eVar 8) (eVar 14) (eOp fSub (eOp fIx (eVar 8) (eVar 14)) (eC (.int 1))))
noncomputable def tq3a2a0 : SM := (sSet 21 (eMeth [(5, m_Store_take)] [] (eVar 16) (aCons (eCall bMin (aCons (eOp fMod (eOp fDiv (eVar 15) (eC (.int 12))) (eC (.int 5))) (aCons (eCall bLen (aCons (eMeth [(5, m_Store_free_cells)] [] (eVar 16) aNil) aNil)) aNil))) aNil)))
noncomputable def tq3a2a1 : SM := (sEx (eMeth [(5, m_Store_take_out)] [] (eVar 16) (aCons (eVar 21) aNil)))
noncomputable def tq3a2a2 : SM := (sPut (eVar 12) (eVar 14) (eLcF true (eOp fIx (eVar 12) (eVar 14)) (.nm 23) (eTest (eOp (fInA true) (eOp fIx (eVar 23) (eC (.int 0))) (eVar 21))) (eVar 23) [23]))
noncomputable def tq3a2a3 : SM := (sPut (eVar 12) (eVar 14) (eOp (fAdd true) (eOp fIx (eVar 12) (eVar 14)) (eLcF true (eVar 21) (.nm 25) tTrue (eLst true (aCons (eVar 25) (aCons (eCall (bListA false) (aCons (eVar 10) aNil)) (aCons (eCall (bListA false) (aCons (eVar 10) aNil)) aNil)))) [25])))
noncomputable def tq3a2a : SM := sSeq tq3a2a0 (sSeq tq3a2a1 (sSeq tq3a2a2 tq3a2a3))
noncomputable def tq3a2 : SM := sIf (eTest (eOp fEqA (eOp fMod (eOp fDiv (eVar 15) (eC (.int 4))) (eC (.int 3))) (eC (.int 0)))) tq3a2a sPass
noncomputable def tq3a3a0 : SM := (sPut (eVar 7) (eVar 14) (eC (.str 35)))
noncomputable def tq3a3a1 : SM := (sPut (eVar 6) (eVar 14) (eMake 3 m_Stack_init [] (aCons (eMake 7 m_Leaving_init [] (aCons (eVar 16) aNil)) aNil)))
noncomputable def tq3a3a : SM := sSeq tq3a3a0 tq3a3a1
noncomputable def tq3a3 : SM := sIf (eTest (eOp fLe (eOp fIx (eVar 8) (eVar 14)) (eC (.int 0)))) tq3a3a sPass
noncomputable def tq3a : SM := sSeq tq3a0 (sSeq tq3a1 (sSeq tq3a2 tq3a3))
noncomputable def tq3b0a0 : SM := (sPut (eVar 7) (eVar 14) (eC (.str 36)))
noncomputable def tq3b0a1 : SM := (sPut (eVar 6) (eVar 14) (eMake 3 m_Stack_init [] (aCons (eMake 6 m_Entering_init [] (aCons (eVar 16) aNil)) aNil)))
noncomputable def tq3b0a : SM := sSeq tq3b0a0 tq3b0a1
noncomputable def tq3b0 : SM := sIf (eTest (eOp fEqA (eOp fIx (eVar 7) (eVar 14)) (eC (.str 33)))) tq3b0a sPass
noncomputable def tq3b1 : SM := (sSet 19 (eMeth [(1, m_Memory_peek)] [] (eVar 3) (aCons (eOp (fAdd true) (eC (.int 1)) (eVar 14)) aNil)))
noncomputable def tq3b2 : SM := (sSet 20 (eMeth [(3, m_Stack_step)] [] (eOp fIx (eVar 6) (eVar 14)) (aCons (eVar 3) (aCons (eVar 14) aNil))))
noncomputable def tq3b3 : SM := (sIf (tAnd1 (eTest (eOp fEqA (eOp fIx (eVar 7) (eVar 14)) (eC (.str 35)))) (tAnd1 (eTest (eOp fIsNot (eVar 19) (eC .non))) (eTest (eOp fIs (eMeth [(1, m_Memory_peek)] [] (eVar 3) (aCons (eOp (fAdd true) (eC (.int 1)) (eVar 14)) aNil)) (eC .non))))) (sSet 10 (eLcF true (eVar 10) (.nm 24) (eTest (eOp fNeA (eOp fIx (eVar 24) (eC (.int 0))) (eVar 14))) (eVar 24) [24])) sPass)
noncomputable def tq3b4a0 : SM := (sPut (eVar 7) (eVar 14) (eC (.str 34)))
noncomputable def tq3b4a1 : SM := (sPut (eVar 8) (eVar 14) (eOp (fAdd true) (eC (.int 1)) (eOp fMod (eOp fDiv (eVar 15) (eC (.int 4))) (eC (.int 6)))))
noncomputable def tq3b4a : SM := sSeq tq3b4a0 tq3b4a1
noncomputable def tq3b4b : SM := (sIf (tNot1 (eTruth (eVar 20))) (sPut (eVar 7) (eVar 14) (eC (.str 33))) sPass)
noncomputable def tq3b4 : SM := sIf (tAnd1 (tNot1 (eTruth (eVar 20))) (eTest (eOp fEqA (eOp fIx (eVar 7) (eVar 14)) (eC (.str 36))))) tq3b4a tq3b4b
noncomputable def tq3b5a0 : SM := (sSet 22 (eMeth [(1, m_Memory_peek)] [] (eVar 3) (aCons (eC (.int 0)) aNil)))
noncomputable def tq3b5a1a0 : SM := (sSet 11 (eOp (fAdd true) (eVar 11) (eC (.int 1))))
noncomputable def tq3b5a1a1 : SM := (sPut (eVar 9) (eVar 14) (eVar 22))
noncomputable def tq3b5a1a2 : SM := (sSet 10 (eOp (fAdd true) (eVar 10) (eLst true (aCons (eTup (aCons (eVar 14) (aCons (eVar 11) aNil))) aNil))))
noncomputable def tq3b5a1a : SM := sSeq tq3b5a1a0 (sSeq tq3b5a1a1 tq3b5a1a2)
noncomputable def tq3b5a1 : SM := sIf (tAnd1 (eTest (eOp fEqA (eVar 19) (eVar 22))) (eTest (eOp fEqA (eLcF true (eVar 10) (.nm 24) (eTest (eOp fEqA (eOp fIx (eVar 24) (eC (.int 0))) (eVar 14))) (eVar 24) [24]) (eLst true aNil)))) tq3b5a1a sPass
noncomputable def tq3b5a : SM := sSeq tq3b5a0 tq3b5a1
noncomputable def tq3b5 : SM := sIf (tAnd1 (eTest (eOp fEqA (eOp fIx (eVar 7) (eVar 14)) (eC (.str 36)))) (tAnd1 (eTest (eOp fEqA (eOp fIx (eOp fIx (eOp fIx (eMeth [(1, m_Memory_log)] [] (eVar 3) aNil) (eNeg (eC (.int 1)))) (eC (.int 2))) (eC (.int 0))) (eC (.str 2)))) (eTest (eOp fIsNot (eMeth [(1, m_Memory_peek)] [] (eVar 3) (aCons (eOp (fAdd true) (eC (.int 1)) (eVar 14)) aNil)) (eC .non))))) tq3b5a sPass
noncomputable def tq3b : SM := sSeq tq3b0 (sSeq tq3b1 (sSeq tq3b2 (sSeq tq3b3 (sSeq tq3b4 tq3b5))))
noncomputable def tq3 : SM := sIf (eTest (eOp fEqA (eOp fIx (eVar 7) (eVar 14)) (eC (.str 34)))) tq3a tq3b
noncomputable def tq4 : SM := (sForR rng1 (aCons (eVar 2) aNil) (.nm 17) b_law_l2)
noncomputable def tq5 : SM := (sIf (tNot1 (eTruth (eCallF m__law_slots [] (aCons (eVar 3) (aCons (eVar 10) (aCons (eVar 9) aNil)))))) (sRet (eC (.bl false))) sPass)
noncomputable def tq : SM := sSeq tq0 (sSeq tq1 (sSeq tq2 (sSeq tq3 (sSeq tq4 tq5))))
theorem tq3a2a_eq : tq3a2a = sSeq tq3a2a0 (sSeq tq3a2a1 (sSeq tq3a2a2 tq3a2a3)) := rfl
theorem tq3a2_eq : tq3a2 = sIf (eTest (eOp fEqA (eOp fMod (eOp fDiv (eVar 15) (eC (.int 4))) (eC (.int 3))) (eC (.int 0)))) tq3a2a sPass := rfl
theorem tq3a3a_eq : tq3a3a = sSeq tq3a3a0 tq3a3a1 := rfl
theorem tq3a3_eq : tq3a3 = sIf (eTest (eOp fLe (eOp fIx (eVar 8) (eVar 14)) (eC (.int 0)))) tq3a3a sPass := rfl
theorem tq3a_eq : tq3a = sSeq tq3a0 (sSeq tq3a1 (sSeq tq3a2 tq3a3)) := rfl
theorem tq3b0a_eq : tq3b0a = sSeq tq3b0a0 tq3b0a1 := rfl
theorem tq3b0_eq : tq3b0 = sIf (eTest (eOp fEqA (eOp fIx (eVar 7) (eVar 14)) (eC (.str 33)))) tq3b0a sPass := rfl
theorem tq3b4a0_eq : tq3b4a0 = (sPut (eVar 7) (eVar 14) (eC (.str 34))) := rfl
theorem tq3b4a1_eq : tq3b4a1 = (sPut (eVar 8) (eVar 14) (eOp (fAdd true) (eC (.int 1)) (eOp fMod (eOp fDiv (eVar 15) (eC (.int 4))) (eC (.int 6))))) := rfl
theorem tq3b4a_eq : tq3b4a = sSeq tq3b4a0 tq3b4a1 := rfl
theorem tq3b4b_eq : tq3b4b = (sIf (tNot1 (eTruth (eVar 20))) (sPut (eVar 7) (eVar 14) (eC (.str 33))) sPass) := rfl
theorem tq3b4_eq : tq3b4 = sIf (tAnd1 (tNot1 (eTruth (eVar 20))) (eTest (eOp fEqA (eOp fIx (eVar 7) (eVar 14)) (eC (.str 36))))) tq3b4a tq3b4b := rfl
theorem tq3b5a0_eq : tq3b5a0 = (sSet 22 (eMeth [(1, m_Memory_peek)] [] (eVar 3) (aCons (eC (.int 0)) aNil))) := rfl
theorem tq3b5a1a0_eq : tq3b5a1a0 = (sSet 11 (eOp (fAdd true) (eVar 11) (eC (.int 1)))) := rfl
theorem tq3b5a1a1_eq : tq3b5a1a1 = (sPut (eVar 9) (eVar 14) (eVar 22)) := rfl
theorem tq3b5a1a2_eq : tq3b5a1a2 = (sSet 10 (eOp (fAdd true) (eVar 10) (eLst true (aCons (eTup (aCons (eVar 14) (aCons (eVar 11) aNil))) aNil)))) := rfl
theorem tq3b5a1a_eq : tq3b5a1a = sSeq tq3b5a1a0 (sSeq tq3b5a1a1 tq3b5a1a2) := rfl
theorem tq3b5a1_eq : tq3b5a1 = sIf (tAnd1 (eTest (eOp fEqA (eVar 19) (eVar 22))) (eTest (eOp fEqA (eLcF true (eVar 10) (.nm 24) (eTest (eOp fEqA (eOp fIx (eVar 24) (eC (.int 0))) (eVar 14))) (eVar 24) [24]) (eLst true aNil)))) tq3b5a1a sPass := rfl
theorem tq3b5a_eq : tq3b5a = sSeq tq3b5a0 tq3b5a1 := rfl
theorem tq3b5_eq : tq3b5 = sIf (tAnd1 (eTest (eOp fEqA (eOp fIx (eVar 7) (eVar 14)) (eC (.str 36)))) (tAnd1 (eTest (eOp fEqA (eOp fIx (eOp fIx (eOp fIx (eMeth [(1, m_Memory_log)] [] (eVar 3) aNil) (eNeg (eC (.int 1)))) (eC (.int 2))) (eC (.int 0))) (eC (.str 2)))) (eTest (eOp fIsNot (eMeth [(1, m_Memory_peek)] [] (eVar 3) (aCons (eOp (fAdd true) (eC (.int 1)) (eVar 14)) aNil)) (eC .non))))) tq3b5a sPass := rfl
theorem tq3b_eq : tq3b = sSeq tq3b0 (sSeq tq3b1 (sSeq tq3b2 (sSeq tq3b3 (sSeq tq3b4 tq3b5)))) := rfl
theorem tq3_eq : tq3 = sIf (eTest (eOp fEqA (eOp fIx (eVar 7) (eVar 14)) (eC (.str 34)))) tq3a tq3b := rfl
theorem tq_eq : tq = sSeq tq0 (sSeq tq1 (sSeq tq2 (sSeq tq3 (sSeq tq4 tq5)))) := rfl
theorem tq_def : b_law_l3 = tq := rfl
/-! ### law k09: the law's lists -/
section
variable {x x1 : Mx} {m m1 : Me} {G G1 : Store} {N t th c j : Nat} {F F' R P P' Q : List (Nat × Ob)} {o o' : Ob} {v : Val} {E : Int} {sl : Nat → Option Int} {l6 l7 l8 l9 l12 : List Val} {act : Cs} {ser : Int} {wk : List Int} {shl : List (Option Int)} {fs : List (List Int)} {Ts : List Th9} {T T' : Th9}
structure A9 where
  a6 : Nat
  a7 : Nat
  a8 : Nat
  a9 : Nat
  a12 : Nat
def rwV (r : Rw9) : Val := .fro [.int r.cell, .obj r.a1, .obj r.a2]
def rwP (r : Rw9) : List (Nat × Ob) := [(r.a1, .lst (r.l1.map pv)), (r.a2, .lst (r.l2.map pv))]
def Th9.skV (T : Th9) : Val := match T.sk with
  | some _ => .obj T.K
  | none => .non
def Th9.skP (t : Nat) (T : Th9) : List (Nat × Ob) := match T.sk with
  | some (mc, res) => Dk.skP T.K T.ML T.S t T.s.th T.S0 mc res
  | none => []
def Th9.rwsP (T : Th9) : List (Nat × Ob) := T.rows.flatMap rwP
def Th9.rwsV (T : Th9) : Val := .fro (T.rows.map rwV)
def blk9 (t : Nat) (T : Th9) : List (Nat × Ob) := T.skP t ++ stoP T.S0 T.D T.s ++ T.rwsP
def lw9 (A : A9) (l6 l7 l8 l9 l12 : List Val) : List (Nat × Ob) := [(A.a6, .lst l6), (A.a7, .lst l7), (A.a8, .lst l8), (A.a9, .lst l9), (A.a12, .lst l12)]
def pp9 (A : A9) (t : Nat) (wk : List Int) (shl : List (Option Int)) (Ts : List Th9) : List (Nat × Ob) := lw9 A (Ts.map Th9.skV) (Ts.map fun T => .str T.ph) (wk.map .int) (shl.map optV) (Ts.map Th9.rwsV) ++ Ts.flatMap (blk9 t)
variable {A : A9}
theorem flat_focus {α β : Type} {f : α → List β} {l : List α} {i : Nat} {a : α} (h : l[i]? = some a) : ∃ R, (l.flatMap f).Perm (f a ++ R) ∧ ∀ b, ((l.set i b).flatMap f).Perm (f b ++ R) := by
  obtain ⟨hi, e⟩ := List.getElem?_eq_some_iff.mp h
  refine ⟨(l.take i).flatMap f ++ (l.drop (i + 1)).flatMap f, ?_, fun b => ?_⟩
  · have : l = l.take i ++ a :: l.drop (i + 1) := by rw [← e, ← List.drop_eq_getElem_cons hi, List.take_append_drop]
    conv => lhs; rw [this]
    rw [List.flatMap_append, List.flatMap_cons]
    exact List.perm_append_comm_assoc _ _ _
  · rw [List.set_eq_take_append_cons_drop, if_pos hi, List.flatMap_append, List.flatMap_cons]
    exact List.perm_append_comm_assoc _ _ _
/-! the lists' places -/
theorem W9.g6 (w : W9 N t x m (lw9 A l6 l7 l8 l9 l12 ++ Q) G) : G[A.a6]? = some (.lst l6) := w.at_ (A.a6, .lst l6) (by simp [lw9])
theorem W9.g7 (w : W9 N t x m (lw9 A l6 l7 l8 l9 l12 ++ Q) G) : G[A.a7]? = some (.lst l7) := w.at_ (A.a7, .lst l7) (by simp [lw9])
theorem W9.g8 (w : W9 N t x m (lw9 A l6 l7 l8 l9 l12 ++ Q) G) : G[A.a8]? = some (.lst l8) := w.at_ (A.a8, .lst l8) (by simp [lw9])
theorem W9.g9 (w : W9 N t x m (lw9 A l6 l7 l8 l9 l12 ++ Q) G) : G[A.a9]? = some (.lst l9) := w.at_ (A.a9, .lst l9) (by simp [lw9])
theorem W9.g12 (w : W9 N t x m (lw9 A l6 l7 l8 l9 l12 ++ Q) G) : G[A.a12]? = some (.lst l12) := w.at_ (A.a12, .lst l12) (by simp [lw9])
theorem W9.p6 (w : W9 N t x m (lw9 A l6 l7 l8 l9 l12 ++ Q) G) (l : List Val) : W9 N t x m (lw9 A l l7 l8 l9 l12 ++ Q) (G.set A.a6 (.lst l)) := w.put _
theorem perm7 {a b : Nat × Ob} {l : List (Nat × Ob)} : (a :: b :: l).Perm (b :: a :: l) := List.Perm.swap ..
theorem W9.p7 (w : W9 N t x m (lw9 A l6 l7 l8 l9 l12 ++ Q) G) (l : List Val) : W9 N t x m (lw9 A l6 l l8 l9 l12 ++ Q) (G.set A.a7 (.lst l)) :=
  ((w.perm perm7).put _).perm perm7
theorem perm8 {a b c : Nat × Ob} {l : List (Nat × Ob)} : (a :: b :: c :: l).Perm (c :: a :: b :: l) := ((List.Perm.swap c b l).cons a).trans (List.Perm.swap c a _)
theorem W9.p8 (w : W9 N t x m (lw9 A l6 l7 l8 l9 l12 ++ Q) G) (l : List Val) : W9 N t x m (lw9 A l6 l7 l l9 l12 ++ Q) (G.set A.a8 (.lst l)) :=
  ((w.perm perm8).put _).perm perm8.symm
theorem perm9 {a b c d : Nat × Ob} {l : List (Nat × Ob)} : (a :: b :: c :: d :: l).Perm (d :: a :: b :: c :: l) := (perm8.cons a).trans (List.Perm.swap d a _)
theorem W9.p9 (w : W9 N t x m (lw9 A l6 l7 l8 l9 l12 ++ Q) G) (l : List Val) : W9 N t x m (lw9 A l6 l7 l8 l l12 ++ Q) (G.set A.a9 (.lst l)) :=
  ((w.perm perm9).put _).perm perm9.symm
theorem perm12 {a b c d e : Nat × Ob} {l : List (Nat × Ob)} : (a :: b :: c :: d :: e :: l).Perm (e :: a :: b :: c :: d :: l) := (perm9.cons a).trans (List.Perm.swap e a _)
theorem W9.p12 (w : W9 N t x m (lw9 A l6 l7 l8 l9 l12 ++ Q) G) (l : List Val) : W9 N t x m (lw9 A l6 l7 l8 l9 l ++ Q) (G.set A.a12 (.lst l)) :=
  ((w.perm perm12).put _).perm perm12.symm
/-- the law's variables in a turn -/
def e9 (sc : Val) (tp : List Int) (t M : Nat) (st fr : List Val) (A : A9) (act : Cs) (ser : Int) (o13 o14 o15 o16 o17 o18 o19 o20 o21 o22 o23 o24 o25 : Option Val) : Env1 :=
  [some sc, some (.fro (tp.map .int)), some (.int (t : Int)), some (.obj M), some (.fro st), some (.fro fr), some (.obj A.a6), some (.obj A.a7), some (.obj A.a8), some (.obj A.a9), some (.fro (act.map pv)), some (.int ser), some (.obj A.a12), o13, o14, o15, o16, o17, o18, o19, o20, o21, o22, o23, o24, o25]
/-- the state between turns -/
structure L9 (N t M L : Nat) (A : A9) (x : Mx) (m : Me) (G : Store) (E : Int) (sl : Nat → Option Int) (act : Cs) (ser : Int) (wk : List Int) (shl : List (Option Int)) (fs : List (List Int)) (Ts : List Th9) : Prop where
  w : W9 N t x m (pp9 A t wk shl Ts) G
  ab : Ab9 t m E sl
  iv : I9 t E sl act ser shl fs Ts
  wl : wk.length = t
  hL : ∀ T ∈ Ts, T.s.L = L
  hM : x.M = M
  xL : x.L = L
  f12 : ∀ f ∈ fs, f.length ≤ 1000
/-- a thread's own objects, and the rest -/
theorem L9.focus {M L : Nat} (h : L9 N t M L A x m G E sl act ser wk shl fs Ts) {i : Nat} (hi : Ts[i]? = some T) : ∃ R, W9 N t x m (lw9 A (Ts.map Th9.skV) (Ts.map fun T => .str T.ph) (wk.map .int) (shl.map optV) (Ts.map Th9.rwsV) ++ (blk9 t T ++ R)) G ∧
    ∀ {N' x' m' G' wk' shl'} {T' : Th9} {l6 l7 l12 : List Val}, W9 N' t x' m' (lw9 A l6 l7 (wk'.map .int) (shl'.map optV) l12 ++ (blk9 t T' ++ R)) G' → l6 = (Ts.map Th9.skV).set i T'.skV → l7 = (Ts.map fun T => Val.str T.ph).set i (.str T'.ph) → l12 = (Ts.map Th9.rwsV).set i T'.rwsV → W9 N' t x' m' (pp9 A t wk' shl' (Ts.set i T')) G' := by
  obtain ⟨R, p1, p2⟩ := flat_focus (f := blk9 t) hi
  refine ⟨R, h.w.perm (p1.append_left _), fun w h6 h7 h12 => ?_⟩
  subst h6 h7 h12
  unfold pp9
  rw [List.map_set, List.map_set, List.map_set]
  exact w.perm ((p2 _).symm.append_left _)
theorem set_self {α : Type} {l : List α} {i : Nat} {a : α} (h : l[i]? = some a) : l.set i a = l := by
  obtain ⟨hi, e⟩ := List.getElem?_eq_some_iff.mp h
  rw [← e]
  exact List.set_getElem_self hi
end
/-! ### law k09: a turn within a call -/
section
variable {x x1 : Mx} {m m1 : Me} {G G1 : Store} {N t th c j i M L k n S0 D K ML S : Nat} {F F' R P P' Q : List (Nat × Ob)} {o o' : Ob} {v sc : Val} {E nu : Int} {sl : Nat → Option Int} {l6 l7 l8 l9 l12 st fr : List Val} {act : Cs} {ser : Int} {wk tp : List Int} {shl : List (Option Int)} {fs : List (List Int)} {Ts : List Th9} {T T' : Th9} {A : A9} {s s' : Sto} {o17 o18 o19 o20 o21 o22 o23 o24 o25 : Option Val}
theorem W9.sub (w : W9 N t x m P G) (h : P'.Sublist P) : W9 N t x m P' G := ⟨w.b, w.nd.sublist (h.map _), fun q hq => w.ap q (h.subset hq), fun q hq => w.at_ q (h.subset hq)⟩
theorem W9.putM (w : W9 N t x m (F ++ (j, o) :: R) G) (o' : Ob) : W9 N t x m (F ++ (j, o') :: R) (G.set j o') :=
  ((w.perm List.perm_middle).put o').perm List.perm_middle.symm
theorem fIn_items {u : Val} {l : List Val} {v : Val} {neg : Bool} (hi : itemsOf G u = some l) (hl : ∀ u ∈ l, pln dEq u = true) (hv : pln dEq v = true) : fInA neg v u G = .ok (.bl (neg != decide (v ∈ l))) G := by
  unfold fInA orF fIn
  obtain ⟨ds, e1⟩ := plnL_toD (G := G) (k := dEq) (plnL_iff.mpr hl)
  obtain ⟨d, e2⟩ := pln_toD (G := G) _ hv
  rw [hi]
  simp only [Option.bind, e1, e2]
  have : (ds.any fun y => PyData.eqv y d) = decide (v ∈ l) := by
    rw [Bool.eq_iff_iff, List.any_eq_true, decide_eq_true_iff]
    constructor
    · rintro ⟨y, hy, he⟩
      obtain ⟨a, ha, ha2⟩ := optAll_mem e1 y hy
      rw [eqv_pln dEq (hl a ha) hv ha2 e2] at he
      rw [← of_decide_eq_true he]
      exact ha
    · intro hm
      obtain ⟨j, hj⟩ := List.getElem?_of_mem hm
      obtain ⟨b, hb1, hb2⟩ := optAll_get e1 hj
      exact ⟨b, List.mem_of_getElem? hb1, by rw [eqv_pln dEq hv hv hb2 e2]; simp⟩
  rw [this]
theorem mem_ints {c : Int} {cs : List Int} : decide (Val.int c ∈ cs.map Val.int) = decide (c ∈ cs) := by
  rw [decide_eq_decide]
  constructor
  · intro h
    obtain ⟨d, hd, e⟩ := List.mem_map.mp h
    cases e
    exact hd
  · exact fun h => List.mem_map.mpr ⟨c, h, rfl⟩
theorem pv_inj {a b : Int × Int} : pv a = pv b ↔ a = b := by
  constructor
  · intro h
    unfold pv at h
    cases a
    cases b
    simp at h
    simp [h]
  · intro h
    rw [h]
theorem mem_pvs {c : Int × Int} {cs : Cs} : decide (pv c ∈ cs.map pv) = decide (c ∈ cs) := by
  rw [decide_eq_decide]
  constructor
  · intro h
    obtain ⟨d, hd, e⟩ := List.mem_map.mp h
    rw [← pv_inj.mp e]
    exact hd
  · exact fun h => List.mem_map.mpr ⟨c, h, rfl⟩
theorem fIn_ints9 {c : Int} {cs : List Int} {neg : Bool} : fInA neg (.int c) (.fro (cs.map .int)) G = .ok (.bl (neg != decide (c ∈ cs))) G := by
  rw [fIn_items (l := cs.map .int) rfl (fun u hu => by obtain ⟨d, _, rfl⟩ := List.mem_map.mp hu; rfl) rfl, mem_ints]
theorem fIn_pvs {c : Int × Int} {cs : Cs} {neg : Bool} {u : Val} (hu : itemsOf G u = some (cs.map pv)) : fInA neg (pv c) u G = .ok (.bl (neg != decide (c ∈ cs))) G := by
  rw [fIn_items hu (fun u hu => by obtain ⟨d, _, rfl⟩ := List.mem_map.mp hu; rfl) rfl, mem_pvs]
theorem a0_9 (w : W9 N t x m P G) (hM : x.M = M) (ab : Ab9 t m E sl) (hi : i < t) (hN : N < 80000) : ∃ x' m' G', tq3a0 (e9 sc tp t M st fr A act ser (some (.int (k : Int))) (some (.int (i : Int))) (some (.int nu)) (some (.obj S0)) o17 o18 o19 o20 o21 o22 o23 o24 o25) G = .next (e9 sc tp t M st fr A act ser (some (.int (k : Int))) (some (.int (i : Int))) (some (.int nu)) (some (.obj S0)) o17 o18 o19 o20 o21 o22 o23 o24 o25) G' ∧ W9 (N + 1) t x' m' P G' ∧ Ab9 t m' E sl ∧ x'.M = x.M ∧ x'.L = x.L := by
  have cl := w.b.cells
  have c1 : 1 + 2 * t < m.cells := by omega
  obtain ⟨x', G', e, w1, f⟩ := w9_acc w (by omega) (q := .read (1 + 2 * t)) c1 trivial hi
  refine ⟨x', _, G', ?_, w1, ab.read, f.M, f.L⟩
  have hm := w.b.at_.mem
  have ml : fldV [(5, 0), (1, 0)] (.obj x.M) G = .ok (.obj x.L) G := fldV_at hm rfl
  have wd := s_word (i := 0) w.b.lay
  have ec : (1 + 2 * ((t : Nat) : Int) + 0) = ((1 + 2 * t : Nat) : Int) := by omega
  rw [ec] at wd
  rw [hM] at hm ml e
  simp only [Rq.val] at e
  unfold tq3a0
  simp [e9, methV_1 hm, ml, methV_1 w.b.lay, wd, e, -Int.natCast_add, -Int.natCast_mul]
theorem ix7 {a : Nat} {l : List Val} {v : Val} (h : G[a]? = some (.lst l)) (e : l[i]? = some v) : fIx (.obj a) (.int (i : Int)) G = .ok v G := fIx_lobj h e
theorem pu7 {a : Nat} {l : List Val} {v w : Val} (h : G[a]? = some (.lst l)) (e : l[i]? = some v) : putA (.obj a) (.int (i : Int)) w G = some (G.set a (.lst (l.set i w))) := putA_lst h (List.getElem?_eq_some_iff.mp e).1
theorem a1_9 (w : W9 N t x m (lw9 A l6 l7 l8 l9 l12 ++ Q) G) {a : Int} (e8 : l8[i]? = some (.int a)) : tq3a1 (e9 sc tp t M st fr A act ser (some (.int (k : Int))) (some (.int (i : Int))) (some (.int nu)) (some (.obj S0)) o17 o18 o19 o20 o21 o22 o23 o24 o25) G = .next (e9 sc tp t M st fr A act ser (some (.int (k : Int))) (some (.int (i : Int))) (some (.int nu)) (some (.obj S0)) o17 o18 o19 o20 o21 o22 o23 o24 o25) (G.set A.a8 (.lst (l8.set i (.int (a - 1))))) := by
  unfold tq3a1
  simp [e9, ix7 w.g8 e8, pu7 w.g8 e8]
/-- new rows -/
theorem news9 {ρ : Env1} (h10 : ρ[10]? = some (some (.fro (act.map pv)))) (hl : 25 < ρ.length) : ∀ (cs : List Int) (P : List (Nat × Ob)) (G : Store), W9 N t x m P G → ∃ (news : List Rw9) (G' : Store), lcF (.nm 25) tTrue (eLst true (aCons (eVar 25) (aCons (eCall (bListA false) (aCons (eVar 10) aNil)) (aCons (eCall (bListA false) (aCons (eVar 10) aNil)) aNil)))) ρ (cs.map .int) G = .ok (news.map rwV) G' ∧ W9 N t x m (news.flatMap rwP ++ P) G' ∧ news.map Rw9.cell = cs ∧ ∀ r ∈ news, r.l1 = act ∧ r.l2 = act
  | [], P, G, w => ⟨[], G, rfl, w, rfl, fun r hr => by cases hr⟩
  | c :: cs, P, G, w => by
    have w1 := w.push (.lst (act.map pv))
    have w2 := w1.push (.lst (act.map pv))
    obtain ⟨news, G', e, w3, hc, ha⟩ := news9 h10 hl cs _ _ w2
    let r : Rw9 := ⟨c, G.length, (G ++ [Ob.lst (act.map pv)]).length, act, act⟩
    refine ⟨r :: news, G', ?_, ?_, by rw [List.map_cons, hc], fun q hq => ?_⟩
    · have e10 : (ρ.set 25 (some (.int c)))[10]? = some (some (.fro (act.map pv))) := by rw [List.getElem?_set_ne (by decide)]; exact h10
      have e25 : (ρ.set 25 (some (.int c)))[25]? = some (some (.int c)) := List.getElem?_set_self hl
      have te : eLst true (aCons (eVar 25) (aCons (eCall (bListA false) (aCons (eVar 10) aNil)) (aCons (eCall (bListA false) (aCons (eVar 10) aNil)) aNil))) (ρ.set 25 (some (.int c))) G = .ok (rwV r) (G ++ [Ob.lst (act.map pv)] ++ [Ob.lst (act.map pv)]) := by
        simp [e10, e25, rwV, r]
      rw [List.map_cons]
      unfold lcF lcFT
      simp only [pt_nm, tTrue_ok, bind_ok, if_true, te, e]
      rfl
    · rw [List.flatMap_cons]
      refine w3.perm ?_
      show (news.flatMap rwP ++ (((G ++ [Ob.lst (act.map pv)]).length, Ob.lst (act.map pv)) :: (G.length, Ob.lst (act.map pv)) :: P)).Perm ([(G.length, Ob.lst (act.map pv)), ((G ++ [Ob.lst (act.map pv)]).length, Ob.lst (act.map pv))] ++ news.flatMap rwP ++ P)
      refine (List.Perm.append_left _ (List.Perm.swap _ _ _)).trans ?_
      rw [List.append_assoc]
      exact (List.perm_append_comm_assoc _ [(G.length, Ob.lst (act.map pv)), ((G ++ [Ob.lst (act.map pv)]).length, Ob.lst (act.map pv))] _)
    · rcases List.mem_cons.mp hq with rfl | hq
      · exact ⟨rfl, rfl⟩
      · exact ha q hq
theorem flat_filter {α β : Type} {f : α → List β} {p : α → Bool} : ∀ {l : List α}, ((l.filter p).flatMap f).Sublist (l.flatMap f)
  | [] => List.Sublist.refl _
  | a :: l => by
    rw [List.filter_cons, List.flatMap_cons]
    split
    · rw [List.flatMap_cons]
      exact (List.Sublist.refl _).append flat_filter
    · exact flat_filter.trans (List.sublist_append_right _ _)
/-- the thread takes cells out -/
theorem a2_9 (w : W9 N t x m (lw9 A l6 l7 l8 l9 l12 ++ (blk9 t T ++ R)) G) (h12 : l12[i]? = some T.rwsV) (z1 : T.rows.length ≤ 10000) (z2 : T.s.spare.length ≤ 1000) (z3 : T.s.out.length ≤ 1000) :
    ∃ G' T' p21, tq3a2 (e9 sc tp t M st fr A act ser (some (.int (k : Int))) (some (.int (i : Int))) (some (.int nu)) (some (.obj T.S0)) o17 o18 o19 o20 o21 o22 o23 o24 o25) G = .next (e9 sc tp t M st fr A act ser (some (.int (k : Int))) (some (.int (i : Int))) (some (.int nu)) (some (.obj T.S0)) o17 o18 o19 o20 p21 o22 o23 o24 o25) G' ∧ W9 N t x m (lw9 A l6 l7 l8 l9 (l12.set i T'.rwsV) ++ (blk9 t T' ++ R)) G' ∧
      (T' = T ∨ ∃ n news, n ≤ T.s.spare.length ∧ T' = { T with s := { T.s with spare := T.s.spare.drop n, out := T.s.out ++ T.s.spare.take n }, rows := T.rows.filter (fun r => decide (r.cell ∉ T.s.spare.take n)) ++ news } ∧ (∀ r ∈ news, r.cell ∈ T.s.spare.take n ∧ r.l1 = act ∧ r.l2 = act) ∧ news.length ≤ 12) := by
  have d4 : ∀ J, fDiv (.int nu) (.int 4) J = .ok (.int (nu / 4)) J := fun J => fDiv_ii (by decide) (by decide)
  have d12 : ∀ J, fDiv (.int nu) (.int 12) J = .ok (.int (nu / 12)) J := fun J => fDiv_ii (by decide) (by decide)
  have m3 : ∀ J a, fMod (.int a) (.int 3) J = .ok (.int (a % 3)) J := fun J a => fMod_ii (by decide)
  have m5 : ∀ J a, fMod (.int a) (.int 5) J = .ok (.int (a % 5)) J := fun J a => fMod_ii (by decide)
  by_cases hz : nu / 4 % 3 = 0
  · have hsto : ∀ {s : Sto} {Q1 Q2 : List (Nat × Ob)} {J : Store}, W9 N t x m (Q1 ++ (stoP T.S0 T.D s ++ Q2)) J → StoAt J T.S0 T.D s := fun w => ⟨w.at_ (T.S0, _) (by simp), w.at_ (T.D, _) (by simp), by
      have nd := w.nd
      rw [adr, List.map_append] at nd
      have nd := (List.nodup_append.mp nd).2.1
      simp only [List.map_append, List.map_cons, List.cons_append, List.nodup_cons, List.mem_cons, not_or] at nd
      exact nd.1.1⟩
    have e0 : lw9 A l6 l7 l8 l9 l12 ++ (blk9 t T ++ R) = (lw9 A l6 l7 l8 l9 l12 ++ T.skP t) ++ (stoP T.S0 T.D T.s ++ (T.rwsP ++ R)) := by
      unfold blk9
      simp only [List.append_assoc]
    have w0 := w
    rw [e0] at w0
    have h0 := hsto w0
    obtain ⟨b, hb⟩ : ∃ b : Nat, (b : Int) = nu / 12 % 5 := ⟨(nu / 12 % 5).toNat, by have := Int.emod_nonneg (nu / 12) (by decide : (5 : Int) ≠ 0); omega⟩
    obtain ⟨n, hn, en⟩ : ∃ n : Nat, n ≤ T.s.spare.length ∧ n ≤ 4 ∧ ∀ J, bMin [.int (nu / 12 % 5), .int (T.s.spare.length : Int)] J = .ok (.int (n : Int)) J := by
      have := Int.emod_lt_of_pos (nu / 12) (by decide : (0 : Int) < 5)
      by_cases hc : (T.s.spare.length : Int) < nu / 12 % 5
      · exact ⟨T.s.spare.length, Nat.le_refl _, by omega, fun J => by rw [bMin_ii, if_pos hc]⟩
      · exact ⟨b, by omega, by omega, fun J => by rw [bMin_ii, if_neg hc, hb]⟩
    obtain ⟨hn4, en⟩ := en
    have ff := st_free h0
    have tk := st_take h0 hn
    let s1 : Sto := { T.s with spare := T.s.spare.drop n }
    have w1 := w0.putM (F := lw9 A l6 l7 l8 l9 l12 ++ T.skP t) (stoOb s1 T.D)
    have h1 : StoAt (G.set T.S0 (stoOb s1 T.D)) T.S0 T.D s1 := hsto (Q2 := T.rwsP ++ R) w1
    have to := st_take_out (cs := T.s.spare.take n) h1 (by show T.s.out.length + _ ≤ _; rw [List.length_take]; omega)
    let s2 : Sto := { T.s with spare := T.s.spare.drop n, out := T.s.out ++ T.s.spare.take n }
    have w2 := w1.putM (F := lw9 A l6 l7 l8 l9 l12 ++ T.skP t) (stoOb s2 T.D)
    generalize hG2 : (G.set T.S0 (stoOb s1 T.D)).set T.S0 (stoOb s2 T.D) = G2 at w2
    let rows1 := T.rows.filter fun r => decide (r.cell ∉ T.s.spare.take n)
    have e2 : (lw9 A l6 l7 l8 l9 l12 ++ T.skP t) ++ (T.S0, stoOb s2 T.D) :: ((T.D, .lst (T.s.del.map rowV)) :: (T.rwsP ++ R)) = lw9 A l6 l7 l8 l9 l12 ++ (T.skP t ++ (stoP T.S0 T.D s2 ++ (T.rwsP ++ R))) := by simp [s2]
    have w2' : W9 N t x m (lw9 A l6 l7 l8 l9 l12 ++ (T.skP t ++ (stoP T.S0 T.D s2 ++ (T.rwsP ++ R)))) G2 := by
      rw [← e2]
      exact w2
    have w3 := w2'.p12 (l12.set i (.fro (rows1.map rwV)))
    have g3 : (l12.set i (.fro (rows1.map rwV)))[i]? = some (.fro (rows1.map rwV)) := List.getElem?_set_self (List.getElem?_eq_some_iff.mp h12).1
    obtain ⟨news, G4, el, w4, hcs, hla⟩ := news9 (act := act) (ρ := wipe1 (e9 sc tp t M st fr A act ser (some (.int (k : Int))) (some (.int (i : Int))) (some (.int nu)) (some (.obj T.S0)) o17 o18 o19 o20 (some (.fro ((T.s.spare.take n).map .int))) o22 o23 o24 o25) [25]) rfl (by simp [wipe1, e9]) (T.s.spare.take n) _ _ w3
    have nl : news.length ≤ 4 := by
      have := congrArg List.length hcs
      rw [List.length_map, List.length_take] at this
      omega
    have rl : rows1.length ≤ T.rows.length := List.length_filter_le _ _
    have w4' : W9 N t x m (lw9 A l6 l7 l8 l9 (l12.set i (.fro (rows1.map rwV))) ++ (news.flatMap rwP ++ (T.skP t ++ (stoP T.S0 T.D s2 ++ (T.rwsP ++ R))))) G4 := w4.perm (List.perm_append_comm_assoc _ _ _)
    have w5 := w4'.p12 (l12.set i (.fro ((rows1 ++ news).map rwV)))
    let T2 : Th9 := { T with s := s2, rows := rows1 ++ news }
    have w6 := w5.sub (P' := lw9 A l6 l7 l8 l9 (l12.set i (.fro ((rows1 ++ news).map rwV))) ++ (news.flatMap rwP ++ (T.skP t ++ (stoP T.S0 T.D s2 ++ (rows1.flatMap rwP ++ R))))) (List.Sublist.append_left (List.Sublist.append_left (List.Sublist.append_left (List.Sublist.append_left (flat_filter.append (List.Sublist.refl R)) _) _) _) _)
    have w7 := w6.perm (Q := lw9 A l6 l7 l8 l9 (l12.set i T2.rwsV) ++ (blk9 t T2 ++ R)) (by
      refine List.Perm.append_left _ ?_
      have e : blk9 t T2 ++ R = (T.skP t ++ stoP T.S0 T.D s2 ++ rows1.flatMap rwP) ++ (news.flatMap rwP ++ R) := by
        unfold blk9 Th9.rwsP
        show T.skP t ++ stoP T.S0 T.D s2 ++ (rows1 ++ news).flatMap rwP ++ R = _
        rw [List.flatMap_append]
        simp only [List.append_assoc]
      rw [e]
      refine List.Perm.trans ?_ (List.perm_append_comm_assoc (news.flatMap rwP) (T.skP t ++ stoP T.S0 T.D s2 ++ rows1.flatMap rwP) R)
      simp only [List.append_assoc]
      exact List.Perm.refl _)
    have q0 : tq3a2a0 (e9 sc tp t M st fr A act ser (some (.int (k : Int))) (some (.int (i : Int))) (some (.int nu)) (some (.obj T.S0)) o17 o18 o19 o20 o21 o22 o23 o24 o25) G = .next (e9 sc tp t M st fr A act ser (some (.int (k : Int))) (some (.int (i : Int))) (some (.int nu)) (some (.obj T.S0)) o17 o18 o19 o20 (some (.fro ((T.s.spare.take n).map .int))) o22 o23 o24 o25) (G.set T.S0 (stoOb s1 T.D)) := by
      have bl : ∀ J, bLen [.fro (T.s.spare.map .int)] J = .ok (.int (T.s.spare.length : Int)) J := fun J => by rw [bLen_fro, List.length_map]
      unfold tq3a2a0
      simp [e9, methV_1 h0.ins, ff, d12, m5, bl, en, tk, -bLen_fro, -List.map_take]
      rfl
    have q1 : ∀ ρ : Env1, ρ[16]? = some (some (.obj T.S0)) → ρ[21]? = some (some (.fro ((T.s.spare.take n).map .int))) → tq3a2a1 ρ (G.set T.S0 (stoOb s1 T.D)) = .next ρ G2 := fun ρ h16 h21 => by
      have to' : m_Store_take_out [.obj T.S0, .fro ((T.s.spare.take n).map .int)] (G.set T.S0 (stoOb s1 T.D)) = .ok .non G2 := by rw [to, ← hG2]
      unfold tq3a2a1
      simp [h16, h21, methV_1 h1.ins, to', -List.map_take]
    have cp : ∀ ρ : Env1, ρ[12]? = some (some (.obj A.a12)) → ρ[14]? = some (some (.int (i : Int))) → ρ[21]? = some (some (.fro ((T.s.spare.take n).map .int))) → ρ.length = 26 → eLcF true (eOp fIx (eVar 12) (eVar 14)) (.nm 23) (eTest (eOp (fInA true) (eOp fIx (eVar 23) (eC (.int 0))) (eVar 21))) (eVar 23) [23] ρ G2 = .ok (.fro (rows1.map rwV)) G2 := fun ρ h12' h14 h21 hρ => by
      rw [eLcF_map (enc := rwV) T.rows (fun r => decide (r.cell ∉ T.s.spare.take n)) rwV (v := T.rwsV) (by simp [h12', h14, ix7 w2'.g12 h12]) (.inr rfl) (by omega) fun r hr => ?_]
      · rfl
      · have e21 : ((wipe1 ρ [23]).set 23 (some (rwV r)))[21]? = some (some (.fro ((T.s.spare.take n).map .int))) := by rw [List.getElem?_set_ne (by decide)]; simp [wipe1, h21]
        have e23 : ((wipe1 ρ [23]).set 23 (some (rwV r)))[23]? = some (some (rwV r)) := List.getElem?_set_self (by simp [wipe1]; omega)
        refine ⟨_, rfl, ?_, fun _ => by simp only [e_var, e23]⟩
        have f0 : fIx (rwV r) (.int 0) G2 = .ok (.int r.cell) G2 := fIx_f0
        simp only [e_test, e_op, e_var, e_c, e21, e23, bind_ok, f0, fIn_ints9]
        simp
    have q2 : ∀ ρ : Env1, ρ[12]? = some (some (.obj A.a12)) → ρ[14]? = some (some (.int (i : Int))) → ρ[21]? = some (some (.fro ((T.s.spare.take n).map .int))) → ρ.length = 26 → tq3a2a2 ρ G2 = .next ρ (G2.set A.a12 (.lst (l12.set i (.fro (rows1.map rwV))))) := fun ρ h12' h14 h21 hρ => by
      unfold tq3a2a2
      simp only [v_put, cp ρ h12' h14 h21 hρ, toS_ok, e_var, h12', h14, pu7 w2'.g12 h12]
    have q3 : tq3a2a3 (e9 sc tp t M st fr A act ser (some (.int (k : Int))) (some (.int (i : Int))) (some (.int nu)) (some (.obj T.S0)) o17 o18 o19 o20 (some (.fro ((T.s.spare.take n).map .int))) o22 o23 o24 o25) (G2.set A.a12 (.lst (l12.set i (.fro (rows1.map rwV))))) = .next (e9 sc tp t M st fr A act ser (some (.int (k : Int))) (some (.int (i : Int))) (some (.int nu)) (some (.obj T.S0)) o17 o18 o19 o20 (some (.fro ((T.s.spare.take n).map .int))) o22 o23 o24 o25) (G4.set A.a12 (.lst ((l12.set i (.fro (rows1.map rwV))).set i (.fro ((rows1 ++ news).map rwV))))) := by
      have lc : eLcF true (eVar 21) (.nm 25) tTrue (eLst true (aCons (eVar 25) (aCons (eCall (bListA false) (aCons (eVar 10) aNil)) (aCons (eCall (bListA false) (aCons (eVar 10) aNil)) aNil)))) [25] (e9 sc tp t M st fr A act ser (some (.int (k : Int))) (some (.int (i : Int))) (some (.int nu)) (some (.obj T.S0)) o17 o18 o19 o20 (some (.fro ((T.s.spare.take n).map .int))) o22 o23 o24 o25) (G2.set A.a12 (.lst (l12.set i (.fro (rows1.map rwV))))) = .ok (.fro (news.map rwV)) G4 := by
        unfold eLcF
        have e21 : eVar 21 (e9 sc tp t M st fr A act ser (some (.int (k : Int))) (some (.int (i : Int))) (some (.int nu)) (some (.obj T.S0)) o17 o18 o19 o20 (some (.fro ((T.s.spare.take n).map .int))) o22 o23 o24 o25) (G2.set A.a12 (.lst (l12.set i (.fro (rows1.map rwV))))) = .ok (.fro ((T.s.spare.take n).map .int)) (G2.set A.a12 (.lst (l12.set i (.fro (rows1.map rwV))))) := rfl
        rw [e21]
        simp only [bind_ok]
        rw [if_pos (small_line (by rw [List.length_map, List.length_take]; omega)), el]
        rfl
      have fa : ∀ J, fAdd true (.fro (rows1.map rwV)) (.fro (news.map rwV)) J = .ok (.fro ((rows1 ++ news).map rwV)) J := fun J => by
        rw [fAdd_ff (by simp; omega), List.map_append]
        rfl
      unfold tq3a2a3
      have i12 := ix7 w3.g12 g3
      have u12 := pu7 (w := .fro ((rows1 ++ news).map rwV)) w4'.g12 g3
      simp only [v_put, e_op, e_var]
      simp only [e9, List.getElem?_cons_succ, List.getElem?_cons_zero, bind_ok, i12]
      simp only [e9] at lc
      simp only [lc, bind_ok, fa, toS_ok, u12]
    refine ⟨_, T2, some (.fro ((T.s.spare.take n).map .int)), ?_, w7, .inr ⟨n, news, hn, rfl, fun r hr => ⟨?_, hla r hr⟩, by omega⟩⟩
    · rw [tq3a2_eq]
      have ec : eTest (eOp fEqA (eOp fMod (eOp fDiv (eVar 15) (eC (.int 4))) (eC (.int 3))) (eC (.int 0))) (e9 sc tp t M st fr A act ser (some (.int (k : Int))) (some (.int (i : Int))) (some (.int nu)) (some (.obj T.S0)) o17 o18 o19 o20 o21 o22 o23 o24 o25) G = .ok true G := by simp [e9, d4, m3, hz]
      rw [v_if, ec, toS_ok, if_pos rfl, tq3a2a_eq, v_seq, q0, then_next, v_seq, q1 _ rfl rfl, then_next, v_seq, q2 _ rfl rfl rfl rfl, then_next, q3, List.set_set]
    · rw [← hcs]
      exact List.mem_map.mpr ⟨r, hr, rfl⟩
  · refine ⟨G, T, o21, ?_, by rw [set_self h12]; exact w, .inl rfl⟩
    rw [tq3a2_eq]
    simp [e9, d4, m3, hz]
end
/-! ### law k09: a turn within a call, whole -/
section
variable {x x1 : Mx} {m m1 : Me} {G G1 : Store} {N t th c j i M L k n S0 D K ML S : Nat} {F F' R P P' Q : List (Nat × Ob)} {o o' : Ob} {v sc : Val} {E nu : Int} {sl : Nat → Option Int} {l6 l7 l8 l9 l12 st fr : List Val} {act : Cs} {ser : Int} {wk tp : List Int} {shl : List (Option Int)} {fs : List (List Int)} {Ts : List Th9} {T T' : Th9} {A : A9} {s s' : Sto} {o17 o18 o19 o20 o21 o22 o23 o24 o25 : Option Val}
theorem W9.push3 (w : W9 N t x m P G) (o : Ob) : W9 N t x m (stkP (G.length + 1) (G.length + 2) G.length o ++ P) (G ++ [o, .ins 3 [.obj (G.length + 2), .non], .lst [.obj G.length]]) := by
  have w1 := w.push o
  have w2 := w1.push (.ins 3 [.obj (G.length + 2), .non])
  have w3 := w2.push (.lst [.obj G.length])
  simp only [List.length_append, List.length_singleton, List.append_assoc, List.cons_append, List.nil_append] at w3
  exact w3.perm ((List.Perm.swap _ _ _))
theorem mkS9 {ρ : Env1} {f : F1} {cl : Nat} (h16 : ρ[16]? = some (some (.obj S0))) (e : f [.obj G.length, .obj S0] (G ++ [.ins cl []]) = .ok .non (G ++ [o])) : eMake 3 m_Stack_init [] (aCons (eMake cl f [] (aCons (eVar 16) aNil)) aNil) ρ G = .ok (.obj (G.length + 1)) (G ++ [o, .ins 3 [.obj (G.length + 2), .non], .lst [.obj G.length]]) := by
  have si := stk_init (G := G ++ [o]) (v := .obj G.length)
  have e1 : (G ++ [o]).length = G.length + 1 := by simp
  rw [e1] at si
  have e2 : G ++ [o] ++ [Ob.ins 3 []] = G ++ [o, Ob.ins 3 []] := by simp
  have e3 : G ++ [o] ++ [Ob.ins 3 [.obj (G.length + 1 + 1), .non], .lst [.obj G.length]] = G ++ [o, Ob.ins 3 [.obj (G.length + 2), .non], .lst [.obj G.length]] := by simp
  rw [e2, e3] at si
  simp [h16, e, si]
theorem stoOf9 {Q1 Q2 : List (Nat × Ob)} (w : W9 N t x m (Q1 ++ (stoP S0 D s ++ Q2)) G) : StoAt G S0 D s := ⟨w.at_ (S0, _) (by simp), w.at_ (D, _) (by simp), by
  have nd := w.nd
  rw [adr, List.map_append] at nd
  have nd := (List.nodup_append.mp nd).2.1
  simp only [List.map_append, List.map_cons, List.cons_append, List.nodup_cons, List.mem_cons, not_or] at nd
  exact nd.1.1⟩
/-- a new stack in the place of the old one -/
def Th9.stack (T : Th9) (ph K ML S : Nat) (mc : Mc9) : Th9 := { T with ph := ph, K := K, ML := ML, S := S, sk := some (some mc, .non) }
theorem blk_new {mc : Mc9} {ph : Nat} (w : W9 N t x m (lw9 A l6 l7 l8 l9 l12 ++ (blk9 t T ++ R)) G) (hth : T.s.th = th) : W9 N t x m (lw9 A l6 l7 l8 l9 l12 ++ (blk9 t (T.stack ph (G.length + 1) (G.length + 2) G.length mc) ++ R)) (G ++ [mc.ob t th T.S0, .ins 3 [.obj (G.length + 2), .non], .lst [.obj G.length]]) := by
  have w1 := w.push3 (mc.ob t th T.S0)
  have w2 := w1.sub (P' := stkP (G.length + 1) (G.length + 2) G.length (mc.ob t th T.S0) ++ (lw9 A l6 l7 l8 l9 l12 ++ (stoP T.S0 T.D T.s ++ T.rwsP ++ R))) (by
    refine List.Sublist.append_left (List.Sublist.append_left ?_ _) _
    refine List.Sublist.append ?_ (List.Sublist.refl _)
    unfold blk9
    exact List.Sublist.append (List.sublist_append_right _ _) (List.Sublist.refl _))
  refine w2.perm ((List.perm_append_comm_assoc _ _ _).trans (List.Perm.append_left _ ?_))
  have e : blk9 t (T.stack ph (G.length + 1) (G.length + 2) G.length mc) = stkP (G.length + 1) (G.length + 2) G.length (mc.ob t th T.S0) ++ stoP T.S0 T.D T.s ++ T.rwsP := by
    rw [← hth]
    rfl
  rw [e]
  simp only [List.append_assoc]
  exact List.Perm.refl _
theorem a3_9 (w : W9 N t x m (lw9 A l6 l7 l8 l9 l12 ++ (blk9 t T ++ R)) G) (h6 : l6[i]? = some T.skV) (h7 : l7[i]? = some (.str T.ph)) {a : Int} (h8 : l8[i]? = some (.int a)) (hL : T.s.L = x.L) (ht : t ≤ 1000) :
    ∃ G' T', tq3a3 (e9 sc tp t M st fr A act ser (some (.int (k : Int))) (some (.int (i : Int))) (some (.int nu)) (some (.obj T.S0)) o17 o18 o19 o20 o21 o22 o23 o24 o25) G = .next (e9 sc tp t M st fr A act ser (some (.int (k : Int))) (some (.int (i : Int))) (some (.int nu)) (some (.obj T.S0)) o17 o18 o19 o20 o21 o22 o23 o24 o25) G' ∧ W9 N t x m (lw9 A (l6.set i T'.skV) (l7.set i (.str T'.ph)) l8 l9 l12 ++ (blk9 t T' ++ R)) G' ∧
      (T' = T ∨ ∃ K ML S, T' = T.stack 35 K ML S (if T.s.out = [] then .l28 else .l30)) := by
  by_cases ha : a ≤ 0
  · have w1 := w.p7 (l7.set i (.str 35))
    have hG1 : (G.set A.a7 (.lst (l7.set i (.str 35)))).length = G.length := List.length_set ..
    generalize hg : G.set A.a7 (.lst (l7.set i (.str 35))) = G1 at w1 hG1
    have h0 : StoAt G1 T.S0 T.D T.s := stoOf9 (Q1 := lw9 A l6 (l7.set i (.str 35)) l8 l9 l12 ++ T.skP t) (Q2 := T.rwsP ++ R) (by
      have := w1
      unfold blk9 at this
      simpa only [List.append_assoc] using this)
    have li := lv_init h0 (w1.layS hL) ht
    have eo : lvOb T.S0 .non (othersOf t T.s.th) (if T.s.out = [] then 28 else 30) = (if T.s.out = [] then Mc9.l28 else Mc9.l30).ob t T.s.th T.S0 := by
      split
      · show _ = lvOb T.S0 .non (nI (othN t T.s.th)) 28
        rw [othN_of]
      · show _ = lvOb T.S0 .non (nI (othN t T.s.th)) 30
        rw [othN_of]
    rw [eo] at li
    have w2 := blk_new (mc := if T.s.out = [] then Mc9.l28 else Mc9.l30) (ph := 35) w1 rfl
    have w3 := w2.p6 (l6.set i (.obj (G1.length + 1)))
    refine ⟨_, T.stack 35 (G1.length + 1) (G1.length + 2) G1.length (if T.s.out = [] then .l28 else .l30), ?_, w3, .inr ⟨_, _, _, rfl⟩⟩
    have mk := fun (ρ : Env1) (h : ρ[16]? = some (some (.obj T.S0))) => mkS9 (ρ := ρ) h li
    rw [tq3a3_eq, v_if]
    have ec : eTest (eOp fLe (eOp fIx (eVar 8) (eVar 14)) (eC (.int 0))) (e9 sc tp t M st fr A act ser (some (.int (k : Int))) (some (.int (i : Int))) (some (.int nu)) (some (.obj T.S0)) o17 o18 o19 o20 o21 o22 o23 o24 o25) G = .ok true G := by simp [e9, ix7 w.g8 h8, ha]
    rw [ec, toS_ok, if_pos rfl, tq3a3a_eq, v_seq]
    have q0 : tq3a3a0 (e9 sc tp t M st fr A act ser (some (.int (k : Int))) (some (.int (i : Int))) (some (.int nu)) (some (.obj T.S0)) o17 o18 o19 o20 o21 o22 o23 o24 o25) G = .next (e9 sc tp t M st fr A act ser (some (.int (k : Int))) (some (.int (i : Int))) (some (.int nu)) (some (.obj T.S0)) o17 o18 o19 o20 o21 o22 o23 o24 o25) G1 := by
      unfold tq3a3a0
      rw [← hg]
      simp only [v_put, e_c, e_var, e9, List.getElem?_cons_succ, List.getElem?_cons_zero, toS_ok, pu7 w.g7 h7]
    rw [q0, then_next]
    unfold tq3a3a1
    rw [v_put, mk _ rfl]
    simp only [e_var, e9, List.getElem?_cons_succ, List.getElem?_cons_zero, toS_ok, pu7 w2.g6 h6]
  · refine ⟨G, T, ?_, by rw [set_self h6, set_self h7]; exact w, .inl rfl⟩
    rw [tq3a3_eq]
    simp [e9, ix7 w.g8 h8, ha]
theorem inn9 (h : L9 N t M L A x m G E sl act ser wk shl fs Ts) (hi : Ts[i]? = some T) (hph : T.ph = 34) {b : Nat} (hz : Z9 n b act Ts) (hn : n ≤ 300) (hN : N < 80000) (ht3 : t ≤ 3) :
    ∃ x' m' G' wk' T' p21, tq3a (e9 sc tp t M st fr A act ser (some (.int (k : Int))) (some (.int (i : Int))) (some (.int nu)) (some (.obj T.S0)) o17 o18 o19 o20 o21 o22 o23 o24 o25) G = .next (e9 sc tp t M st fr A act ser (some (.int (k : Int))) (some (.int (i : Int))) (some (.int nu)) (some (.obj T.S0)) o17 o18 o19 o20 p21 o22 o23 o24 o25) G' ∧ L9 (N + 1) t M L A x' m' G' E sl act ser wk' shl fs (Ts.set i T') ∧ T'.S0 = T.S0 ∧ Z9 (n + 1) (b + n + 1) act (Ts.set i T') := by
  obtain ⟨hlt, hTi⟩ := List.getElem?_eq_some_iff.mp hi
  have hit : i < t := by rw [← h.iv.lT]; exact hlt
  have hlf : i < fs.length := by rw [h.iv.lF]; exact hit
  have hf := List.getElem?_eq_getElem hlf
  have hTm := List.mem_of_getElem? hi
  have ti := h.iv.ti i T _ hi hf
  have hA : isA act i := by
    have := ti.ph
    rw [hph] at this
    cases this with
    | in34 _ a => exact a
  have pl := ti.perm.length_eq
  have fl := h.f12 _ (List.getElem_mem hlf)
  simp only [List.length_append] at pl
  obtain ⟨R, w0, fin⟩ := h.focus hi
  have hw8 : i < wk.length := by rw [h.wl]; exact hit
  have q8 : (wk.map Val.int)[i]? = some (.int wk[i]) := by rw [List.getElem?_map, List.getElem?_eq_getElem hw8]; rfl
  have q6 : (Ts.map Th9.skV)[i]? = some T.skV := by rw [List.getElem?_map, hi]; rfl
  have q7 : (Ts.map fun T => Val.str T.ph)[i]? = some (.str T.ph) := by rw [List.getElem?_map, hi]; rfl
  have q12 : (Ts.map Th9.rwsV)[i]? = some T.rwsV := by rw [List.getElem?_map, hi]; rfl
  obtain ⟨x1, m1, G1, b0, w1, ab1, M1, L1⟩ := a0_9 (sc := sc) (tp := tp) (st := st) (fr := fr) (A := A) (act := act) (ser := ser) (k := k) (nu := nu) (S0 := T.S0) (o17 := o17) (o18 := o18) (o19 := o19) (o20 := o20) (o21 := o21) (o22 := o22) (o23 := o23) (o24 := o24) (o25 := o25) w0 h.hM h.ab hit hN
  have b1 := a1_9 (sc := sc) (tp := tp) (st := st) (fr := fr) (act := act) (ser := ser) (k := k) (nu := nu) (M := M) (S0 := T.S0) (o17 := o17) (o18 := o18) (o19 := o19) (o20 := o20) (o21 := o21) (o22 := o22) (o23 := o23) (o24 := o24) (o25 := o25) w1 q8
  have w2 := w1.p8 ((wk.map Val.int).set i (.int (wk[i] - 1)))
  generalize hG2 : G1.set A.a8 (.lst ((wk.map Val.int).set i (.int (wk[i] - 1)))) = G2 at b1 w2
  obtain ⟨G3, T1, p21, b2, w3, c1⟩ := a2_9 (sc := sc) (tp := tp) (st := st) (fr := fr) (act := act) (ser := ser) (k := k) (nu := nu) (M := M) (o17 := o17) (o18 := o18) (o19 := o19) (o20 := o20) (o21 := o21) (o22 := o22) (o23 := o23) (o24 := o24) (o25 := o25) w2 q12 (by have := hz.rows T hTm; omega) (by omega) (by omega)
  have s1 : T1.S0 = T.S0 ∧ T1.s.L = T.s.L ∧ T1.sk = T.sk ∧ T1.ph = T.ph ∧ T1.skV = T.skV := by
    rcases c1 with rfl | ⟨_, _, _, rfl, _⟩ <;> exact ⟨rfl, rfl, rfl, rfl, rfl⟩
  have q8' : ((wk.map Val.int).set i (.int (wk[i] - 1)))[i]? = some (.int (wk[i] - 1)) := List.getElem?_set_self (by rw [List.length_map]; exact hw8)
  obtain ⟨G4, T2, b3, w4, c2⟩ := a3_9 (sc := sc) (tp := tp) (st := st) (fr := fr) (act := act) (ser := ser) (k := k) (nu := nu) (M := M) (o17 := o17) (o18 := o18) (o19 := o19) (o20 := o20) (o21 := p21) (o22 := o22) (o23 := o23) (o24 := o24) (o25 := o25) w3 (by rw [s1.2.2.2.2]; exact q6) (by rw [s1.2.2.2.1]; exact q7) q8' (by rw [s1.2.1, h.hL T hTm, ← h.xL, L1]) (by omega)
  rw [s1.1] at b3
  have wki : (wk.map Val.int).set i (.int (wk[i] - 1)) = (wk.set i (wk[i] - 1)).map Val.int := by rw [List.map_set]
  rw [wki] at w4
  have s2 : T2.S0 = T1.S0 ∧ T2.s = T1.s ∧ T2.rows = T1.rows ∧ T2.rwsV = T1.rwsV := by
    rcases c2 with rfl | ⟨_, _, _, rfl⟩ <;> exact ⟨rfl, rfl, rfl, rfl⟩
  rw [← s2.2.2.2] at w4
  have w5 := fin w4 rfl rfl rfl
  have hp : Ph9 t i E sl act T1.s.out T2.ph T2.sk := by
    rcases c2 with rfl | ⟨_, _, _, rfl⟩
    · rw [s1.2.2.2.1, hph]
      exact .in34 _ hA
    · show Ph9 t i E sl act T1.s.out 35 (some (some (if T1.s.out = [] then Mc9.l28 else Mc9.l30), .non))
      by_cases ho : T1.s.out = []
      · rw [if_pos ho]
        exact .lv28 _ ho hA
      · rw [if_neg ho]
        exact .lv30 _ hA
  have iv : I9 t E sl act ser shl fs (Ts.set i T2) := by
    rcases c1 with rfl | ⟨n', news, hn', rfl, hne, _⟩
    · exact h.iv.setPh hi s2.2.1 s2.2.2.1 hp
    · exact h.iv.inn hi hn' s2.2.1 s2.2.2.1 hne hp
  refine ⟨x1, m1, G4, wk.set i (wk[i] - 1), T2, p21, ?_, ⟨w5, ab1, iv, by rw [List.length_set]; exact h.wl, fun U hU => ?_, M1.trans h.hM, L1.trans h.xL, h.f12⟩, s2.1.trans s1.1, ?_⟩
  · rw [tq3a_eq, v_seq, b0, then_next, v_seq, b1, then_next, v_seq, b2, then_next, b3]
  · rcases List.mem_or_eq_of_mem_set hU with hU | rfl
    · exact h.hL U hU
    · rw [s2.2.1, s1.2.1]
      exact h.hL T hTm
  · have z := hz.mono.wide (show b ≤ b + n + 1 by omega)
    have za : act.length ≤ n := hz.act
    have zr := hz.rows T hTm
    have key : T2.s.del.length ≤ n + 1 ∧ T2.rows.length ≤ 12 * (n + 1) ∧ ∀ r ∈ T2.rows, r.l1.length ≤ n + 1 ∧ r.l2.length ≤ b + n + 1 := by
      rw [s2.2.1, s2.2.2.1]
      rcases c1 with rfl | ⟨n', news, hn', rfl, hne, hnl⟩
      · exact ⟨z.del _ hTm, z.rows _ hTm, fun r hr => ⟨z.l1 _ hTm r hr, z.l2 _ hTm r hr⟩⟩
      · refine ⟨z.del T hTm, ?_, fun r hr => ?_⟩
        · show (T.rows.filter _ ++ news).length ≤ _
          rw [List.length_append]
          have := List.length_filter_le (fun r : Rw9 => decide (r.cell ∉ T.s.spare.take n')) T.rows
          omega
        · rcases List.mem_append.mp (show r ∈ T.rows.filter _ ++ news from hr) with hr | hr
          · have hr := (List.mem_filter.mp hr).1
            exact ⟨z.l1 T hTm r hr, z.l2 T hTm r hr⟩
          · obtain ⟨_, e1, e2⟩ := hne r hr
            rw [e1, e2]
            exact ⟨by omega, by omega⟩
    refine ⟨by omega, fun U hU => ?_, fun U hU => ?_, fun U hU r hr => ?_, fun U hU r hr => ?_⟩ <;> rcases List.mem_or_eq_of_mem_set hU with hU | rfl
    · exact z.del U hU
    · exact key.1
    · exact z.rows U hU
    · exact key.2.1
    · exact z.l1 U hU r hr
    · exact (key.2.2 r hr).1
    · exact z.l2 U hU r hr
    · exact (key.2.2 r hr).2
end
/-! ### law k09: a turn outside of a call: its statements -/
section
variable {x x1 : Mx} {m m1 : Me} {G G1 : Store} {N t th c j i M L k n S0 D K ML S ph kk : Nat} {F F' R P P' Q : List (Nat × Ob)} {o o' : Ob} {v sc : Val} {E nu : Int} {sl : Nat → Option Int} {l6 l7 l8 l9 l12 st fr : List Val} {act : Cs} {ser : Int} {wk tp : List Int} {shl : List (Option Int)} {fs : List (List Int)} {Ts : List Th9} {T T' : Th9} {A : A9} {s s' : Sto} {o17 o18 o19 o20 o21 o22 o23 o24 o25 : Option Val} {mc : Mc9} {v0 v1 : Option Int}
theorem bListA_obj {l : List Val} {o : Nat} {z : Bool} (h : G[o]? = some (.lst l)) : bListA z [.obj o] G = mkL z l G := by
  unfold bListA orF1 bList
  simp only [items_obj h]
  cases z <;> rfl
theorem trunc_fro {l : List Val} : trunc G (.ok (.fro l) G) = .ok (.fro l) G := by
  unfold trunc
  dsimp only
  rw [if_pos (by simp)]
  have : frzV G.length G (.fro l) = if clo G.length (.fro l) = true then some (.fro l) else none := rfl
  rw [this]
  split
  · rename_i w h
    split at h
    · cases h; rfl
    · cases h
  · rfl
theorem s_log (h : MemAt x m G) : m_Memory_log [.obj x.M] G = .ok (.fro m.rows) G := by
  unfold m_Memory_log b_Memory_log
  rw [runT_eq (by rfl)]
  simp [mf_rows h, bListA_obj h.rows, trunc_fro]
abbrev f9 (sc : Val) (tp : List Int) (t M : Nat) (st fr : List Val) (A : A9) (act : Cs) (ser : Int) (k i : Nat) (nu : Int) (S0 : Nat) (o17 o18 o19 o20 o21 o22 o23 o24 o25 : Option Val) : Env1 :=
  e9 sc tp t M st fr A act ser (some (.int (k : Int))) (some (.int (i : Int))) (some (.int nu)) (some (.obj S0)) o17 o18 o19 o20 o21 o22 o23 o24 o25
theorem b0_9 (w : W9 N t x m (lw9 A l6 l7 l8 l9 l12 ++ (blk9 t T ++ R)) G) (h6 : l6[i]? = some T.skV) (h7 : l7[i]? = some (.str T.ph)) (hL : T.s.L = x.L) :
    ∃ G' T', tq3b0 (f9 sc tp t M st fr A act ser k i nu T.S0 o17 o18 o19 o20 o21 o22 o23 o24 o25) G = .next (f9 sc tp t M st fr A act ser k i nu T.S0 o17 o18 o19 o20 o21 o22 o23 o24 o25) G' ∧ W9 N t x m (lw9 A (l6.set i T'.skV) (l7.set i (.str T'.ph)) l8 l9 l12 ++ (blk9 t T' ++ R)) G' ∧
      ((T.ph ≠ 33 ∧ T' = T) ∨ (T.ph = 33 ∧ ∃ K ML S, T' = T.stack 36 K ML S .e2)) := by
  by_cases ha : T.ph = 33
  · have w1 := w.p7 (l7.set i (.str 36))
    generalize hg : G.set A.a7 (.lst (l7.set i (.str 36))) = G1 at w1
    have h0 : StoAt G1 T.S0 T.D T.s := stoOf9 (Q1 := lw9 A l6 (l7.set i (.str 36)) l8 l9 l12 ++ T.skP t) (Q2 := T.rwsP ++ R) (by
      have := w1
      unfold blk9 at this
      simpa only [List.append_assoc] using this)
    have li : m_Entering_init [.obj G1.length, .obj T.S0] (G1 ++ [.ins 6 []]) = .ok .non (G1 ++ [Mc9.e2.ob t T.s.th T.S0]) := en_init h0 (w1.layS hL)
    have w2 := blk_new (mc := .e2) (ph := 36) w1 rfl
    have w3 := w2.p6 (l6.set i (.obj (G1.length + 1)))
    refine ⟨_, T.stack 36 (G1.length + 1) (G1.length + 2) G1.length .e2, ?_, w3, .inr ⟨ha, _, _, _, rfl⟩⟩
    have mk := fun (ρ : Env1) (h : ρ[16]? = some (some (.obj T.S0))) => mkS9 (ρ := ρ) h li
    rw [tq3b0_eq, v_if]
    have ec : eTest (eOp fEqA (eOp fIx (eVar 7) (eVar 14)) (eC (.str 33))) (f9 sc tp t M st fr A act ser k i nu T.S0 o17 o18 o19 o20 o21 o22 o23 o24 o25) G = .ok true G := by simp [f9, e9, ix7 w.g7 h7, ha]
    rw [ec, toS_ok, if_pos rfl, tq3b0a_eq, v_seq]
    have q0 : tq3b0a0 (f9 sc tp t M st fr A act ser k i nu T.S0 o17 o18 o19 o20 o21 o22 o23 o24 o25) G = .next (f9 sc tp t M st fr A act ser k i nu T.S0 o17 o18 o19 o20 o21 o22 o23 o24 o25) G1 := by
      unfold tq3b0a0
      rw [← hg]
      simp only [v_put, e_c, e_var, f9, e9, List.getElem?_cons_succ, List.getElem?_cons_zero, toS_ok, pu7 w.g7 h7]
    rw [q0, then_next]
    unfold tq3b0a1
    rw [v_put, mk _ rfl]
    simp only [e_var, f9, e9, List.getElem?_cons_succ, List.getElem?_cons_zero, toS_ok, pu7 w2.g6 h6]
  · refine ⟨G, T, ?_, by rw [set_self h6, set_self h7]; exact w, .inl ⟨ha, rfl⟩⟩
    rw [tq3b0_eq]
    simp [f9, e9, ix7 w.g7 h7, ha]
theorem pk9 (w : W9 N t x m P G) (hM : x.M = M) (ab : Ab9 t m E sl) (hi : i < t) : m_Memory_peek [.obj M, .int (1 + (i : Int))] G = .ok (optV (sl i)) G := by
  have cl := w.b.cells
  have e := s_peek w.b.at_ w.b.wf (c := 1 + i) (by omega)
  rw [ab.sl i hi, hM] at e
  have : ((1 + i : Nat) : Int) = 1 + (i : Int) := by omega
  rw [this] at e
  exact e
theorem pk09 (w : W9 N t x m P G) (hM : x.M = M) (ab : Ab9 t m E sl) : m_Memory_peek [.obj M, .int 0] G = .ok (.int E) G := by
  have cl := w.b.cells
  have e := s_peek w.b.at_ w.b.wf (c := 0) (by omega)
  rw [ab.ep, hM] at e
  exact e
theorem b1_9 (w : W9 N t x m P G) (hM : x.M = M) (ab : Ab9 t m E sl) (hi : i < t) : tq3b1 (f9 sc tp t M st fr A act ser k i nu S0 o17 o18 o19 o20 o21 o22 o23 o24 o25) G = .next (f9 sc tp t M st fr A act ser k i nu S0 o17 o18 (some (optV (sl i))) o20 o21 o22 o23 o24 o25) G := by
  have hm := w.b.at_.mem
  rw [hM] at hm
  unfold tq3b1
  simp [f9, e9, methV_1 hm, pk9 w hM ab hi]
theorem nx9_th {mc : Mc9} : (nx9 t i E sl s mc).s.th = s.th ∧ (nx9 t i E sl s mc).s.L = s.L := by
  cases mc <;> simp only [nx9] <;> (repeat' split) <;> simp [rel_L9.1, rel_L9.2.1, Sto.stamp]
def Th9.stepped (T : Th9) (D : Nat) (n : Nx9) : Th9 := { T with D := D, s := n.s, sk := some (n.mc, n.res) }
theorem b2_9 (w : W9 N t x m (lw9 A l6 l7 l8 l9 l12 ++ (blk9 t T ++ R)) G) (hM : x.M = M) (hsk : T.sk = some (some mc, v)) (ok : mc.ok t) (ab : Ab9 t m E sl) (hth : T.s.th = i) (hL : T.s.L = x.L) (hi : i < t) (hN : N < 80000) (hl : T.s.del.length < 100000) (hb : T.s.spare.length + totD T.s.del ≤ 1000000) (h6 : l6[i]? = some T.skV) :
    ∃ x' m' G' D', tq3b2 (f9 sc tp t M st fr A act ser k i nu S0 o17 o18 o19 o20 o21 o22 o23 o24 o25) G = .next (f9 sc tp t M st fr A act ser k i nu S0 o17 o18 o19 (some (.bl true)) o21 o22 o23 o24 o25) G' ∧ W9 (N + 1) t x' m' (lw9 A l6 l7 l8 l9 l12 ++ (blk9 t (T.stepped D' (nx9 t i E sl T.s mc)) ++ R)) G' ∧ Ab9 t m' (nx9 t i E sl T.s mc).E (nx9 t i E sl T.s mc).sl ∧ x'.M = x.M ∧ x'.L = x.L ∧ m'.rows = m.rows ++ [.tup [.int ((m.count : Int) + 1), .int (i : Int), (mc.rq i).val]] := by
  have e0 : T.skP t = stkP T.K T.ML T.S (mc.ob t i T.S0) := by
    unfold Th9.skP
    rw [hsk, hth]
  have w0 := w.perm (Q := stkP T.K T.ML T.S (mc.ob t i T.S0) ++ stoP T.S0 T.D T.s ++ (lw9 A l6 l7 l8 l9 l12 ++ (T.rwsP ++ R))) (by
    unfold blk9
    rw [e0]
    refine List.Perm.trans ?_ (List.perm_append_comm_assoc _ _ _)
    simp only [List.append_assoc]
    exact List.Perm.refl _)
  obtain ⟨x', m', G', D', w1, ab1, es, hM1, hL1, _, hr⟩ := step9 mc w0 ab ok hth hL hi hN hl hb
  refine ⟨x', m', G', D', ?_, w1.perm ?_, ab1, hM1, hL1, hr⟩
  · have sV : T.skV = .obj T.K := by unfold Th9.skV; rw [hsk]
    rw [sV] at h6
    have hK : G[T.K]? = some (.ins 3 [.obj T.ML, .non]) := w0.stk.1
    rw [hM] at es
    unfold tq3b2
    simp only [v_set, e_meth, e_op, e_var, f9, e9, List.getElem?_cons_succ, List.getElem?_cons_zero, bind_ok, ix7 w.g6 h6, methV_1 hK, e_aCons, e_aNil, List.append_nil, List.cons_append, List.nil_append, es, toS_ok, List.set_cons_succ, List.set_cons_zero]
  · have e1 : blk9 t (T.stepped D' (nx9 t i E sl T.s mc)) = skP T.K T.ML T.S t i T.S0 (nx9 t i E sl T.s mc).mc (nx9 t i E sl T.s mc).res ++ stoP T.S0 D' (nx9 t i E sl T.s mc).s ++ T.rwsP := by
      unfold blk9 Th9.skP Th9.stepped Th9.rwsP
      simp only
      rw [nx9_th.1, hth]
    rw [e1]
    refine (List.perm_append_comm_assoc _ _ _).trans ?_
    simp only [List.append_assoc]
    exact List.Perm.refl _
theorem b2_none (w : W9 N t x m (lw9 A l6 l7 l8 l9 l12 ++ (blk9 t T ++ R)) G) (hsk : T.sk = some (none, v)) (h6 : l6[i]? = some T.skV) : tq3b2 (f9 sc tp t M st fr A act ser k i nu S0 o17 o18 o19 o20 o21 o22 o23 o24 o25) G = .next (f9 sc tp t M st fr A act ser k i nu S0 o17 o18 o19 (some (.bl false)) o21 o22 o23 o24 o25) G := by
  have sV : T.skV = .obj T.K := by unfold Th9.skV; rw [hsk]
  rw [sV] at h6
  have e0 : T.skP t = [(T.K, .ins 3 [.obj T.ML, v]), (T.ML, .lst [])] := by
    unfold Th9.skP
    rw [hsk]
  have sk : StkAt G T.K T.ML [] v := ⟨w.at_ (T.K, _) (by unfold blk9; rw [e0]; simp), w.at_ (T.ML, _) (by unfold blk9; rw [e0]; simp)⟩
  have es : ∀ mv tv, m_Stack_step [.obj T.K, mv, tv] G = .ok (.bl false) G := fun mv tv => step_none sk sk.1 (settle_none sk)
  unfold tq3b2
  simp only [v_set, e_meth, e_op, e_var, f9, e9, List.getElem?_cons_succ, List.getElem?_cons_zero, bind_ok, ix7 w.g6 h6, methV_1 sk.1, e_aCons, e_aNil, List.append_nil, List.cons_append, List.nil_append, es, toS_ok, List.set_cons_succ, List.set_cons_zero]
theorem isNon_optV : isNon (optV v0) = v0.isNone := by cases v0 <;> rfl
theorem flt9 {ρ : Env1} {f : Int → Bool} {te : F2} (h10 : ρ[10]? = some (some (.fro (act.map pv)))) (h14 : ρ[14]? = some (some (.int (i : Int)))) (hρ : ρ.length = 26) (hl : act.length ≤ 1000) (hf : ∀ a : Int, te (.int a) (.int (i : Int)) G = .ok (.bl (f a)) G) : eLcF true (eVar 10) (.nm 24) (eTest (eOp te (eOp fIx (eVar 24) (eC (.int 0))) (eVar 14))) (eVar 24) [24] ρ G = .ok (.fro ((act.filter fun c => f c.1).map pv)) G := by
  rw [eLcF_map (enc := pv) act (fun c => f c.1) pv (v := .fro (act.map pv)) (by simp [h10]) (.inr rfl) (by omega) fun c hc => ?_]
  · rfl
  · have e14 : ((wipe1 ρ [24]).set 24 (some (pv c)))[14]? = some (some (.int (i : Int))) := by rw [List.getElem?_set_ne (by decide)]; simp [wipe1, h14]
    have e24 : ((wipe1 ρ [24]).set 24 (some (pv c)))[24]? = some (some (pv c)) := List.getElem?_set_self (by simp [wipe1]; omega)
    refine ⟨_, rfl, ?_, fun _ => by simp only [e_var, e24]⟩
    have f0 : fIx (pv c) (.int 0) G = .ok (.int c.1) G := fIx_t0
    simp only [e_test, e_op, e_var, e_c, e14, e24, bind_ok, f0, hf]
theorem b3_skip (w : W9 N t x m (lw9 A l6 l7 l8 l9 l12 ++ Q) G) (hM : x.M = M) (ab : Ab9 t m E sl) (hi : i < t) (h7 : l7[i]? = some (.str ph)) (h : ph ≠ 35 ∨ v0 = none ∨ sl i ≠ none) : tq3b3 (f9 sc tp t M st fr A act ser k i nu S0 o17 o18 (some (optV v0)) o20 o21 o22 o23 o24 o25) G = .next (f9 sc tp t M st fr A act ser k i nu S0 o17 o18 (some (optV v0)) o20 o21 o22 o23 o24 o25) G := by
  have hm := w.b.at_.mem
  rw [hM] at hm
  have pk := pk9 w hM ab hi
  unfold tq3b3
  by_cases h1 : ph = 35
  · by_cases h2 : v0 = none
    · subst h2
      simp [f9, e9, ix7 w.g7 h7, h1, optV]
    · have h3 : sl i ≠ none := by
        rcases h with h | h | h
        · exact absurd h1 h
        · exact absurd h h2
        · exact h
      have h3' : (sl i).isNone = false := by cases hs : sl i with
        | none => exact absurd hs h3
        | some a => rfl
      simp [f9, e9, ix7 w.g7 h7, h1, isNon_optV, methV_1 hm, pk, h3']
  · simp [f9, e9, ix7 w.g7 h7, h1]
theorem b3_act (w : W9 N t x m (lw9 A l6 l7 l8 l9 l12 ++ Q) G) (hM : x.M = M) (ab : Ab9 t m E sl) (hi : i < t) (h7 : l7[i]? = some (.str 35)) (h0 : v0 ≠ none) (h1 : sl i = none) (hl : act.length ≤ 1000) : tq3b3 (f9 sc tp t M st fr A act ser k i nu S0 o17 o18 (some (optV v0)) o20 o21 o22 o23 o24 o25) G = .next (f9 sc tp t M st fr A (act.filter fun c => decide (c.1 ≠ (i : Int))) ser k i nu S0 o17 o18 (some (optV v0)) o20 o21 o22 o23 o24 o25) G := by
  have hm := w.b.at_.mem
  rw [hM] at hm
  have pk := pk9 w hM ab hi
  rw [h1] at pk
  have h0' : v0.isNone = false := by cases v0 with
    | none => exact absurd rfl h0
    | some a => rfl
  have fl := flt9 (G := G) (ρ := f9 sc tp t M st fr A act ser k i nu S0 o17 o18 (some (optV v0)) o20 o21 o22 o23 o24 o25) (i := i) (te := fNeA) (f := fun a => decide (a ≠ (i : Int))) rfl rfl rfl hl (fun a => by rw [fNeA_ii]; simp)
  have ec : tAnd1 (eTest (eOp fEqA (eOp fIx (eVar 7) (eVar 14)) (eC (.str 35)))) (tAnd1 (eTest (eOp fIsNot (eVar 19) (eC .non))) (eTest (eOp fIs (eMeth [(1, m_Memory_peek)] [] (eVar 3) (aCons (eOp (fAdd true) (eC (.int 1)) (eVar 14)) aNil)) (eC .non)))) (f9 sc tp t M st fr A act ser k i nu S0 o17 o18 (some (optV v0)) o20 o21 o22 o23 o24 o25) G = .ok true G := by
    simp [f9, e9, ix7 w.g7 h7, isNon_optV, methV_1 hm, pk, h0']
  unfold tq3b3
  rw [v_if, ec, toS_ok, if_pos rfl, v_set, fl, toS_ok]
  rfl
theorem b4_go : tq3b4 (f9 sc tp t M st fr A act ser k i nu S0 o17 o18 o19 (some (.bl true)) o21 o22 o23 o24 o25) G = .next (f9 sc tp t M st fr A act ser k i nu S0 o17 o18 o19 (some (.bl true)) o21 o22 o23 o24 o25) G := by
  rw [tq3b4_eq, tq3b4b_eq]
  simp [f9, e9]
theorem b4_in (w : W9 N t x m (lw9 A l6 l7 l8 l9 l12 ++ Q) G) (h7 : l7[i]? = some (.str 36)) {a : Int} (h8 : l8[i]? = some (.int a)) : tq3b4 (f9 sc tp t M st fr A act ser k i nu S0 o17 o18 o19 (some (.bl false)) o21 o22 o23 o24 o25) G = .next (f9 sc tp t M st fr A act ser k i nu S0 o17 o18 o19 (some (.bl false)) o21 o22 o23 o24 o25) ((G.set A.a7 (.lst (l7.set i (.str 34)))).set A.a8 (.lst (l8.set i (.int (1 + nu / 4 % 6))))) := by
  have d4 : ∀ J, fDiv (.int nu) (.int 4) J = .ok (.int (nu / 4)) J := fun J => fDiv_ii (by decide) (by decide)
  have m6 : ∀ J a, fMod (.int a) (.int 6) J = .ok (.int (a % 6)) J := fun J a => fMod_ii (by decide)
  have w1 := w.p7 (l7.set i (.str 34))
  rw [tq3b4_eq, tq3b4a_eq, tq3b4a0_eq, tq3b4a1_eq]
  simp [f9, e9, ix7 w.g7 h7, pu7 w.g7 h7, d4, m6, pu7 w1.g8 h8]
theorem b4_out (w : W9 N t x m (lw9 A l6 l7 l8 l9 l12 ++ Q) G) (h7 : l7[i]? = some (.str 35)) : tq3b4 (f9 sc tp t M st fr A act ser k i nu S0 o17 o18 o19 (some (.bl false)) o21 o22 o23 o24 o25) G = .next (f9 sc tp t M st fr A act ser k i nu S0 o17 o18 o19 (some (.bl false)) o21 o22 o23 o24 o25) (G.set A.a7 (.lst (l7.set i (.str 33)))) := by
  rw [tq3b4_eq, tq3b4b_eq]
  simp [f9, e9, ix7 w.g7 h7, pu7 w.g7 h7]
theorem b5_skip (w : W9 N t x m (lw9 A l6 l7 l8 l9 l12 ++ Q) G) (hM : x.M = M) (ab : Ab9 t m E sl) (hi : i < t) (h7 : l7[i]? = some (.str ph)) {rw0 : List Val} {c1 c2 : Val} {ql : List Val} (hr : ph = 36 → m.rows = rw0 ++ [.tup [c1, c2, .tup (.str kk :: ql)]]) (h : ph ≠ 36 ∨ kk ≠ 2 ∨ sl i = none ∨ v0 ≠ some E) : ∃ p22, tq3b5 (f9 sc tp t M st fr A act ser k i nu S0 o17 o18 (some (optV v0)) o20 o21 o22 o23 o24 o25) G = .next (f9 sc tp t M st fr A act ser k i nu S0 o17 o18 (some (optV v0)) o20 o21 p22 o23 o24 o25) G := by
  have hm := w.b.at_.mem
  have lg := s_log w.b.at_
  rw [hM] at hm lg
  have pk := pk9 w hM ab hi
  have pk0 := pk09 w hM ab
  rw [tq3b5_eq]
  by_cases h1 : ph = 36
  · subst h1
    have il : fIx (.fro m.rows) (.int (-1)) G = .ok (.tup [c1, c2, .tup (.str kk :: ql)]) G := by
      unfold fIx orF fIxS
      rw [items_fro]
      simp only [atL_last, hr rfl]
      rw [List.getLast?_append]
      rfl
    by_cases h2 : kk = 2
    · by_cases h3 : sl i = none
      · rw [h3] at pk
        exact ⟨o22, by simp [f9, e9, ix7 w.g7 h7, methV_1 hm, lg, il, h2, pk, optV]⟩
      · have h4 : v0 ≠ some E := by
          rcases h with h | h | h | h
          · exact absurd rfl h
          · exact absurd h2 h
          · exact absurd h h3
          · exact h
        have h3' : (sl i).isNone = false := by cases hs : sl i with
          | none => exact absurd hs h3
          | some a => rfl
        have ne : fEqA (optV v0) (.int E) G = .ok (.bl false) G := by
          rw [fEqA_pln (by cases v0 <;> rfl) rfl]
          have : ¬ optV v0 = .int E := fun z => h4 (by
            cases v0 with
            | none => cases z
            | some a => cases z; rfl)
          simp [this]
        refine ⟨some (.int E), ?_⟩
        rw [tq3b5a_eq, tq3b5a0_eq, tq3b5a1_eq]
        simp [f9, e9, ix7 w.g7 h7, methV_1 hm, lg, il, h2, pk, isNon_optV, h3', pk0, ne]
    · exact ⟨o22, by simp [f9, e9, ix7 w.g7 h7, methV_1 hm, lg, il, h2]⟩
  · exact ⟨o22, by simp [f9, e9, ix7 w.g7 h7, h1]⟩
theorem b5_act (w : W9 N t x m (lw9 A l6 l7 l8 l9 l12 ++ Q) G) (hM : x.M = M) (ab : Ab9 t m E sl) (hi : i < t) (h7 : l7[i]? = some (.str 36)) {rw0 : List Val} {c1 c2 : Val} {ql : List Val} (hr : m.rows = rw0 ++ [.tup [c1, c2, .tup (.str 2 :: ql)]]) (hs : sl i = some E) (hA : ¬ isA act i) (hl : act.length ≤ 1000) (h9 : i < l9.length) : ∃ p22, tq3b5 (f9 sc tp t M st fr A act ser k i nu S0 o17 o18 (some (.int E)) o20 o21 o22 o23 o24 o25) G = .next (f9 sc tp t M st fr A (act ++ [((i : Int), ser + 1)]) (ser + 1) k i nu S0 o17 o18 (some (.int E)) o20 o21 p22 o23 o24 o25) (G.set A.a9 (.lst (l9.set i (.int E)))) := by
  have hm := w.b.at_.mem
  have lg := s_log w.b.at_
  rw [hM] at hm lg
  have pk := pk9 w hM ab hi
  have pk0 := pk09 w hM ab
  rw [hs] at pk
  have il : fIx (.fro m.rows) (.int (-1)) G = .ok (.tup [c1, c2, .tup (.str 2 :: ql)]) G := by
    unfold fIx orF fIxS
    rw [items_fro]
    simp only [atL_last, hr]
    rw [List.getLast?_append]
    rfl
  have fe : act.filter (fun c => decide (c.1 = (i : Int))) = [] := List.filter_eq_nil_iff.mpr fun c hc z => hA ⟨c.2, by
    have := of_decide_eq_true z
    rw [← this]
    exact hc⟩
  have fl := flt9 (G := G) (ρ := f9 sc tp t M st fr A act ser k i nu S0 o17 o18 (some (.int E)) o20 o21 (some (.int E)) o23 o24 o25) (i := i) (te := fEqA) (f := fun a => decide (a = (i : Int))) rfl rfl rfl hl (fun a => by rw [fEqA_ii])
  rw [fe, List.map_nil] at fl
  have ee : fEqA (.fro []) (.fro []) G = .ok (.bl true) G := fEqA_self rfl
  have u9 : putA (.obj A.a9) (.int (i : Int)) (.int E) G = some (G.set A.a9 (.lst (l9.set i (.int E)))) := putA_lst w.g9 h9
  have fa : ∀ J, fAdd true (.fro (act.map pv)) (.fro [.tup [.int (i : Int), .int (ser + 1)]]) J = .ok (.fro ((act ++ [((i : Int), ser + 1)]).map pv)) J := fun J => by
    rw [fAdd_ff (by simp; omega), List.map_append]
    rfl
  refine ⟨some (.int E), ?_⟩
  rw [tq3b5_eq, v_if]
  have ec : tAnd1 (eTest (eOp fEqA (eOp fIx (eVar 7) (eVar 14)) (eC (.str 36)))) (tAnd1 (eTest (eOp fEqA (eOp fIx (eOp fIx (eOp fIx (eMeth [(1, m_Memory_log)] [] (eVar 3) aNil) (eNeg (eC (.int 1)))) (eC (.int 2))) (eC (.int 0))) (eC (.str 2)))) (eTest (eOp fIsNot (eMeth [(1, m_Memory_peek)] [] (eVar 3) (aCons (eOp (fAdd true) (eC (.int 1)) (eVar 14)) aNil)) (eC .non)))) (f9 sc tp t M st fr A act ser k i nu S0 o17 o18 (some (.int E)) o20 o21 o22 o23 o24 o25) G = .ok true G := by
    simp [f9, e9, ix7 w.g7 h7, methV_1 hm, lg, il, pk, optV]
  have q0 : tq3b5a0 (f9 sc tp t M st fr A act ser k i nu S0 o17 o18 (some (.int E)) o20 o21 o22 o23 o24 o25) G = .next (f9 sc tp t M st fr A act ser k i nu S0 o17 o18 (some (.int E)) o20 o21 (some (.int E)) o23 o24 o25) G := by
    unfold tq3b5a0
    simp [f9, e9, methV_1 hm, pk0]
  have ec2 : tAnd1 (eTest (eOp fEqA (eVar 19) (eVar 22))) (eTest (eOp fEqA (eLcF true (eVar 10) (.nm 24) (eTest (eOp fEqA (eOp fIx (eVar 24) (eC (.int 0))) (eVar 14))) (eVar 24) [24]) (eLst true aNil))) (f9 sc tp t M st fr A act ser k i nu S0 o17 o18 (some (.int E)) o20 o21 (some (.int E)) o23 o24 o25) G = .ok true G := by
    rw [e_tand, e_test, e_op]
    have e19 : eVar 19 (f9 sc tp t M st fr A act ser k i nu S0 o17 o18 (some (.int E)) o20 o21 (some (.int E)) o23 o24 o25) G = .ok (.int E) G := rfl
    have e22 : eVar 22 (f9 sc tp t M st fr A act ser k i nu S0 o17 o18 (some (.int E)) o20 o21 (some (.int E)) o23 o24 o25) G = .ok (.int E) G := rfl
    rw [e19, bind_ok, e22, bind_ok, fEqA_ii]
    simp only [bind_ok, decide_true, if_true]
    rw [e_test, e_op, fl, bind_ok, e_lst, e_aNil, bind_ok]
    simp only [List.length_nil, sz0, if_true, mkL_t, bind_ok, ee]
  rw [ec, toS_ok, if_pos rfl, tq3b5a_eq, v_seq, q0, then_next, tq3b5a1_eq, v_if, ec2, toS_ok, if_pos rfl, tq3b5a1a_eq, tq3b5a1a0_eq, tq3b5a1a1_eq, tq3b5a1a2_eq]
  simp [f9, e9, u9, fa, -List.map_append]
end
/-! ### law k09: a turn outside of a call, whole -/
section
variable {x x1 : Mx} {m m1 : Me} {G G1 : Store} {N t th c j i M L k n S0 D K ML S ph kk : Nat} {F F' R P P' Q : List (Nat × Ob)} {o o' : Ob} {v sc : Val} {E nu : Int} {sl : Nat → Option Int} {l6 l7 l8 l9 l12 st fr : List Val} {act : Cs} {ser : Int} {wk tp : List Int} {shl : List (Option Int)} {fs : List (List Int)} {Ts : List Th9} {T T' : Th9} {A : A9} {s s' : Sto} {o17 o18 o19 o20 o21 o22 o23 o24 o25 : Option Val} {mc : Mc9} {v0 v1 : Option Int}
/-- a step's end, by the machine -/
theorem b35_9 (w : W9 N t x m (lw9 A l6 l7 l8 (shl.map optV) l12 ++ Q) G) (hM : x.M = M) (ab : Ab9 t m (nx9 t i E sl s mc).E (nx9 t i E sl s mc).sl) (hi : i < t) (hsl : shl.length = t) (h7 : l7[i]? = some (.str ph)) {out : List Int} (hp : Ph9 t i E sl act out ph (some (some mc, v))) (hl : act.length ≤ 1000) (ga : Ga9 t E sl act ser shl) {rw0 : List Val} {c1 c2 : Val} (hr : m.rows = rw0 ++ [.tup [c1, c2, (mc.rq i).val]]) (h35 : ph = 36 ∨ ph = 35) :
    ∃ p22 G', (tq3b3 (f9 sc tp t M st fr A act ser k i nu S0 o17 o18 (some (optV (sl i))) (some (.bl true)) o21 o22 o23 o24 o25) G).andThen (sSeq tq3b4 tq3b5) = .next (f9 sc tp t M st fr A (actN i E ser act mc) (serN E ser mc) k i nu S0 o17 o18 (some (optV (sl i))) (some (.bl true)) o21 p22 o23 o24 o25) G' ∧ W9 N t x m (lw9 A l6 l7 l8 ((shlN i E shl mc).map optV) l12 ++ Q) G' := by
  have noAct : isA act i → ∃ e, sl i = some e := fun ⟨k, hk⟩ => by
    obtain ⟨j', e1, _, _, e, e2, _⟩ := ga.a _ hk
    have : j' = i := by simp at e1; omega
    rw [this] at e2
    exact ⟨e, e2⟩
  have skip3 : (ph ≠ 35 ∨ sl i = none ∨ (nx9 t i E sl s mc).sl i ≠ none) → tq3b3 (f9 sc tp t M st fr A act ser k i nu S0 o17 o18 (some (optV (sl i))) (some (.bl true)) o21 o22 o23 o24 o25) G = .next (f9 sc tp t M st fr A act ser k i nu S0 o17 o18 (some (optV (sl i))) (some (.bl true)) o21 o22 o23 o24 o25) G := fun h => b3_skip w hM ab hi h7 h
  -- nothing becomes known
  have none9 : ∀ {kk : Nat} {ql : List Val}, actN i E ser act mc = act → serN E ser mc = ser → shlN i E shl mc = shl → (mc.rq i).val = .tup (.str kk :: ql) → (ph ≠ 35 ∨ sl i = none ∨ (nx9 t i E sl s mc).sl i ≠ none) → (ph ≠ 36 ∨ kk ≠ 2 ∨ (nx9 t i E sl s mc).sl i = none ∨ sl i ≠ some (nx9 t i E sl s mc).E) → ∃ p22 G', (tq3b3 (f9 sc tp t M st fr A act ser k i nu S0 o17 o18 (some (optV (sl i))) (some (.bl true)) o21 o22 o23 o24 o25) G).andThen (sSeq tq3b4 tq3b5) = .next (f9 sc tp t M st fr A (actN i E ser act mc) (serN E ser mc) k i nu S0 o17 o18 (some (optV (sl i))) (some (.bl true)) o21 p22 o23 o24 o25) G' ∧ W9 N t x m (lw9 A l6 l7 l8 ((shlN i E shl mc).map optV) l12 ++ Q) G' := fun e1 e2 e3 eq h3 h5 => by
    rw [eq] at hr
    obtain ⟨p22, b5⟩ := b5_skip (sc := sc) (tp := tp) (st := st) (fr := fr) (act := act) (ser := ser) (k := k) (nu := nu) (S0 := S0) (o17 := o17) (o18 := o18) (o20 := some (.bl true)) (o21 := o21) (o22 := o22) (o23 := o23) (o24 := o24) (o25 := o25) (v0 := sl i) w hM ab hi h7 (fun _ => hr) h5
    rw [e1, e2, e3]
    exact ⟨p22, G, by rw [skip3 h3, then_next, v_seq, b4_go, then_next, b5], w⟩
  cases hp with
  | out33 _ => simp at h35
  | in34 _ => simp at h35
  | ent2 v a b c => exact none9 (kk := 2) rfl rfl rfl rfl (.inl (by decide)) (.inr (.inr (.inl a)))
  | ent3 e v b c => exact none9 (kk := 3) rfl rfl rfl rfl (.inl (by decide)) (.inr (.inl (by decide)))
  | ent27 e v a b nA =>
    by_cases he : E = e
    · have e1 : actN i E ser act (.e27 e) = act ++ [((i : Int), ser + 1)] := if_pos he
      have e2 : serN E ser (.e27 e) = ser + 1 := if_pos he
      have e3 : shlN i E shl (.e27 e) = shl.set i (some E) := if_pos he
      have n1 : (nx9 t i E sl s (.e27 e)).E = E ∧ (nx9 t i E sl s (.e27 e)).sl = sl := by simp [nx9, he]
      rw [n1.1, n1.2] at ab
      rw [n1.2] at skip3
      have hs : sl i = some E := by rw [a, he]
      obtain ⟨p22, b5⟩ := b5_act (sc := sc) (tp := tp) (st := st) (fr := fr) (act := act) (ser := ser) (k := k) (nu := nu) (S0 := S0) (o17 := o17) (o18 := o18) (o20 := some (.bl true)) (o21 := o21) (o22 := o22) (o23 := o23) (o24 := o24) (o25 := o25) w hM ab hi h7 (ql := [.int ((0 : Nat) : Int)]) hr hs nA hl (by rw [List.length_map, hsl]; exact hi)
      have w9 := w.p9 ((shl.map optV).set i (.int E))
      rw [e1, e2, e3]
      refine ⟨p22, _, ?_, by rw [List.map_set]; exact w9⟩
      rw [skip3 (.inl (by decide)), then_next, v_seq, b4_go, then_next, hs]
      exact b5
    · have n1 : (nx9 t i E sl s (.e27 e)).E = E := by simp [nx9, he]
      exact none9 (kk := 2) (if_neg he) (if_neg he) (if_neg he) rfl (.inl (by decide)) (.inr (.inr (.inr (by rw [n1, a]; exact fun z => he (Option.some.inj z).symm))))
  | lv30 v a =>
    obtain ⟨e, he⟩ := noAct a
    exact none9 (kk := 2) rfl rfl rfl rfl (.inr (.inr (by show sl i ≠ none; rw [he]; exact fun z => by cases z))) (.inl (by decide))
  | lv28 v b a =>
    obtain ⟨e, he⟩ := noAct a
    have h0 : sl i ≠ none := by rw [he]; exact fun z => by cases z
    have b3 := b3_act (sc := sc) (tp := tp) (st := st) (fr := fr) (act := act) (ser := ser) (k := k) (nu := nu) (S0 := S0) (o17 := o17) (o18 := o18) (o20 := some (.bl true)) (o21 := o21) (o22 := o22) (o23 := o23) (o24 := o24) (o25 := o25) (v0 := sl i) w hM ab hi h7 h0 (if_pos rfl) hl
    obtain ⟨p22, b5⟩ := b5_skip (sc := sc) (tp := tp) (st := st) (fr := fr) (act := act.filter fun c => decide (c.1 ≠ (i : Int))) (ser := ser) (k := k) (nu := nu) (S0 := S0) (o17 := o17) (o18 := o18) (o20 := some (.bl true)) (o21 := o21) (o22 := o22) (o23 := o23) (o24 := o24) (o25 := o25) (v0 := sl i) (kk := 0) (ql := []) (rw0 := []) (c1 := .non) (c2 := .non) w hM ab hi h7 (fun z => absurd z (by decide)) (.inl (by decide))
    exact ⟨p22, G, by rw [b3, then_next, v_seq, b4_go, then_next, b5]; rfl, w⟩
  | lv32 v a b c => exact none9 (kk := 2) rfl rfl rfl rfl (.inr (.inl a)) (.inl (by decide))
  | lv31 e o os v a b c d f => exact none9 (kk := 2) rfl rfl rfl rfl (.inr (.inl a)) (.inl (by decide))
  | lv29 e v a b c d => exact none9 (kk := 4) rfl rfl rfl rfl (.inr (.inl a)) (.inl (by decide))
theorem nx9_del : (nx9 t i E sl s mc).s.del.length ≤ s.del.length + 1 := by
  have r : ∀ e, (s.release e).del.length ≤ s.del.length := fun e => by
    rw [rel_de]
    exact List.length_filter_le _ _
  cases mc <;> simp only [nx9] <;> (repeat' split) <;> first | exact Nat.le_succ _ | exact Nat.le_succ_of_le (r _) | (simp [Sto.stamp]; done)
theorem actN_len : (actN i E ser act mc).length ≤ act.length + 1 := by
  cases mc <;> simp only [actN] <;> (repeat' split) <;> first | exact Nat.le_succ _ | (simp; done) | exact Nat.le_succ_of_le (List.length_filter_le _ _)
theorem totD_flat : ∀ {l : List (Int × List Int)}, totD l = (l.flatMap (·.2)).length
  | [] => rfl
  | q :: l => by
    rw [List.flatMap_cons, List.length_append, ← totD_flat]
    rfl
theorem set_set' {α : Type} {l : List α} {i : Nat} {a b : α} : (l.set i a).set i b = l.set i b := List.set_set ..
theorem els9 (h : L9 N t M L A x m G E sl act ser wk shl fs Ts) (hi : Ts[i]? = some T) (hph : T.ph ≠ 34) {b : Nat} (hz : Z9 n b act Ts) (hn : n ≤ 300) (hN : N < 80000) (ht3 : t ≤ 3) :
    ∃ x' m' G' E' sl' act' ser' wk' shl' T' p19 p20 p22, tq3b (f9 sc tp t M st fr A act ser k i nu T.S0 o17 o18 o19 o20 o21 o22 o23 o24 o25) G = .next (f9 sc tp t M st fr A act' ser' k i nu T.S0 o17 o18 p19 p20 o21 p22 o23 o24 o25) G' ∧ L9 (N + 1) t M L A x' m' G' E' sl' act' ser' wk' shl' fs (Ts.set i T') ∧ T'.S0 = T.S0 ∧ Z9 (n + 1) b act' (Ts.set i T') := by
  obtain ⟨hlt, hTi⟩ := List.getElem?_eq_some_iff.mp hi
  have hit : i < t := by rw [← h.iv.lT]; exact hlt
  have hlf : i < fs.length := by rw [h.iv.lF]; exact hit
  have hf := List.getElem?_eq_getElem hlf
  have hTm := List.mem_of_getElem? hi
  have ti := h.iv.ti i T _ hi hf
  have pl := ti.perm.length_eq
  have fl := h.f12 _ (List.getElem_mem hlf)
  simp only [List.length_append] at pl
  obtain ⟨R, w0, fin⟩ := h.focus hi
  have hw8 : i < wk.length := by rw [h.wl]; exact hit
  have q8 : (wk.map Val.int)[i]? = some (.int wk[i]) := by rw [List.getElem?_map, List.getElem?_eq_getElem hw8]; rfl
  have q6 : (Ts.map Th9.skV)[i]? = some T.skV := by rw [List.getElem?_map, hi]; rfl
  have q7 : (Ts.map fun T => Val.str T.ph)[i]? = some (.str T.ph) := by rw [List.getElem?_map, hi]; rfl
  have q12 : (Ts.map Th9.rwsV)[i]? = some T.rwsV := by rw [List.getElem?_map, hi]; rfl
  obtain ⟨G1, T0, b0, w1, c0⟩ := b0_9 (sc := sc) (tp := tp) (M := M) (st := st) (fr := fr) (act := act) (ser := ser) (k := k) (nu := nu) (o17 := o17) (o18 := o18) (o19 := o19) (o20 := o20) (o21 := o21) (o22 := o22) (o23 := o23) (o24 := o24) (o25 := o25) w0 q6 q7 (by rw [h.hL T hTm, ← h.xL])
  have s0 : T0.S0 = T.S0 ∧ T0.s = T.s ∧ T0.rows = T.rows ∧ T0.rwsV = T.rwsV := by
    rcases c0 with ⟨_, rfl⟩ | ⟨_, _, _, _, rfl⟩ <;> exact ⟨rfl, rfl, rfl, rfl⟩
  have p0 : Ph9 t i E sl act T.s.out T0.ph T0.sk ∧ (T0.ph = 36 ∨ T0.ph = 35) := by
    have p := ti.ph
    rcases c0 with ⟨h33, rfl⟩ | ⟨h33, _, _, _, rfl⟩
    · refine ⟨p, ?_⟩
      generalize T0.ph = ph0 at p h33 hph
      generalize T0.sk = sk0 at p
      cases p <;> simp_all
    · rw [h33] at p
      refine ⟨?_, .inl rfl⟩
      cases p with
      | out33 _ a b c => exact .ent2 _ a b c
  have iv0 : I9 t E sl act ser shl fs (Ts.set i T0) := h.iv.setPh hi s0.2.1 s0.2.2.1 p0.1
  have hi0 : (Ts.set i T0)[i]? = some T0 := List.getElem?_set_self hlt
  have q60 : ((Ts.map Th9.skV).set i T0.skV)[i]? = some T0.skV := List.getElem?_set_self (by rw [List.length_map]; exact hlt)
  have q70 : ((Ts.map fun T => Val.str T.ph).set i (.str T0.ph))[i]? = some (.str T0.ph) := List.getElem?_set_self (by rw [List.length_map]; exact hlt)
  have b1 := b1_9 (sc := sc) (tp := tp) (st := st) (fr := fr) (A := A) (act := act) (ser := ser) (k := k) (nu := nu) (S0 := T.S0) (o17 := o17) (o18 := o18) (o19 := o19) (o20 := o20) (o21 := o21) (o22 := o22) (o23 := o23) (o24 := o24) (o25 := o25) w1 h.hM h.ab hit
  have hL0 : T0.s.L = x.L := by rw [s0.2.1, h.hL T hTm, ← h.xL]
  have oL : ∀ {T' : Th9}, T'.s.L = T.s.L → ∀ U ∈ Ts.set i T', U.s.L = L := fun hT U hU => by
    rcases List.mem_or_eq_of_mem_set hU with hU | rfl
    · exact h.hL U hU
    · rw [hT]; exact h.hL T hTm
  -- the machine of the stack
  have sk : (∃ v, T0.sk = some (none, v)) ∨ ∃ mc v, T0.sk = some (some mc, v) := by
    have p := p0.1
    have q := p0.2
    generalize T0.ph = ph0 at p q
    generalize T0.sk = sk0 at p
    cases p <;> first
      | (simp at q; done)
      | exact .inl ⟨_, rfl⟩
      | exact .inr ⟨_, _, rfl⟩
  rcases sk with ⟨v, hsk⟩ | ⟨mc, v, hsk⟩
  · -- it had ended
    have b2 := b2_none (sc := sc) (tp := tp) (M := M) (st := st) (fr := fr) (act := act) (ser := ser) (k := k) (nu := nu) (S0 := T.S0) (o17 := o17) (o18 := o18) (o19 := some (optV (sl i))) (o20 := o20) (o21 := o21) (o22 := o22) (o23 := o23) (o24 := o24) (o25 := o25) w1 hsk q60
    have p := p0.1
    rw [hsk] at p
    rcases p0.2 with h36 | h35
    · rw [h36] at p q70 w1
      have b3 := b3_skip (sc := sc) (tp := tp) (st := st) (fr := fr) (act := act) (ser := ser) (k := k) (nu := nu) (S0 := T.S0) (o17 := o17) (o18 := o18) (o20 := some (.bl false)) (o21 := o21) (o22 := o22) (o23 := o23) (o24 := o24) (o25 := o25) (v0 := sl i) w1 h.hM h.ab hit q70 (.inl (by decide))
      have b4 := b4_in (sc := sc) (tp := tp) (M := M) (st := st) (fr := fr) (act := act) (ser := ser) (k := k) (nu := nu) (S0 := T.S0) (o17 := o17) (o18 := o18) (o19 := some (optV (sl i))) (o21 := o21) (o22 := o22) (o23 := o23) (o24 := o24) (o25 := o25) w1 q70 q8
      have w2 := (w1.p7 (((Ts.map fun T => Val.str T.ph).set i (.str 36)).set i (.str 34))).p8 ((wk.map Val.int).set i (.int (1 + nu / 4 % 6)))
      generalize hG3 : (G1.set A.a7 (.lst (((Ts.map fun T => Val.str T.ph).set i (.str 36)).set i (.str 34)))).set A.a8 (.lst ((wk.map Val.int).set i (.int (1 + nu / 4 % 6)))) = G3 at w2 b4
      have q7' : (((Ts.map fun T => Val.str T.ph).set i (.str 36)).set i (.str 34))[i]? = some (.str 34) := List.getElem?_set_self (by rw [List.length_set, List.length_map]; exact hlt)
      obtain ⟨p22, b5⟩ := b5_skip (sc := sc) (tp := tp) (st := st) (fr := fr) (act := act) (ser := ser) (k := k) (nu := nu) (S0 := T.S0) (o17 := o17) (o18 := o18) (o20 := some (.bl false)) (o21 := o21) (o22 := o22) (o23 := o23) (o24 := o24) (o25 := o25) (v0 := sl i) (kk := 0) (ql := []) (rw0 := []) (c1 := .non) (c2 := .non) w2 h.hM h.ab hit q7' (fun z => absurd z (by decide)) (.inl (by decide))
      have hA : isA act i := by cases p; assumption
      let T2 : Th9 := { T0 with ph := 34 }
      have iv2 : I9 t E sl act ser shl fs (Ts.set i T2) := h.iv.setPh hi s0.2.1 s0.2.2.1 (.in34 _ hA)
      have ew : (wk.map Val.int).set i (.int (1 + nu / 4 % 6)) = (wk.set i (1 + nu / 4 % 6)).map Val.int := by rw [List.map_set]
      rw [ew, set_set', ← set_self q12, ← s0.2.2.2] at w2
      have w3 := fin (T' := T2) w2 rfl rfl rfl
      refine ⟨x, m, _, E, sl, act, ser, wk.set i (1 + nu / 4 % 6), shl, T2, some (optV (sl i)), some (.bl false), p22, ?_, ⟨w3.mono (Nat.le_succ _), h.ab, iv2, by rw [List.length_set]; exact h.wl, oL (by show T0.s.L = _; rw [s0.2.1]), h.hM, h.xL, h.f12⟩, s0.1, hz.upd hTm (Nat.le_succ _) (by show T0.s.del.length ≤ _; rw [s0.2.1]; exact Nat.le_succ _) s0.2.2.1⟩
      rw [tq3b_eq, v_seq, b0, then_next, v_seq, b1, then_next, v_seq, b2, then_next, v_seq, b3, then_next, v_seq]
      rw [b4, then_next, b5]
    · rw [h35] at p q70 w1
      have hs : sl i = none := by cases p; assumption
      have hA : ¬ isA act i := by cases p; assumption
      have ho : T.s.out = [] := by cases p; assumption
      have b3 := b3_skip (sc := sc) (tp := tp) (st := st) (fr := fr) (act := act) (ser := ser) (k := k) (nu := nu) (S0 := T.S0) (o17 := o17) (o18 := o18) (o20 := some (.bl false)) (o21 := o21) (o22 := o22) (o23 := o23) (o24 := o24) (o25 := o25) (v0 := sl i) w1 h.hM h.ab hit q70 (.inr (.inl hs))
      have b4 := b4_out (sc := sc) (tp := tp) (M := M) (st := st) (fr := fr) (act := act) (ser := ser) (k := k) (nu := nu) (S0 := T.S0) (o17 := o17) (o18 := o18) (o19 := some (optV (sl i))) (o21 := o21) (o22 := o22) (o23 := o23) (o24 := o24) (o25 := o25) w1 q70
      have w2 := w1.p7 (((Ts.map fun T => Val.str T.ph).set i (.str 35)).set i (.str 33))
      generalize hG3 : G1.set A.a7 (.lst (((Ts.map fun T => Val.str T.ph).set i (.str 35)).set i (.str 33))) = G3 at w2 b4
      have q7' : (((Ts.map fun T => Val.str T.ph).set i (.str 35)).set i (.str 33))[i]? = some (.str 33) := List.getElem?_set_self (by rw [List.length_set, List.length_map]; exact hlt)
      obtain ⟨p22, b5⟩ := b5_skip (sc := sc) (tp := tp) (st := st) (fr := fr) (act := act) (ser := ser) (k := k) (nu := nu) (S0 := T.S0) (o17 := o17) (o18 := o18) (o20 := some (.bl false)) (o21 := o21) (o22 := o22) (o23 := o23) (o24 := o24) (o25 := o25) (v0 := sl i) (kk := 0) (ql := []) (rw0 := []) (c1 := .non) (c2 := .non) w2 h.hM h.ab hit q7' (fun z => absurd z (by decide)) (.inl (by decide))
      let T2 : Th9 := { T0 with ph := 33 }
      have iv2 : I9 t E sl act ser shl fs (Ts.set i T2) := h.iv.setPh hi s0.2.1 s0.2.2.1 (.out33 _ hs ho hA)
      rw [set_set', ← set_self q12, ← s0.2.2.2] at w2
      have w3 := fin (T' := T2) w2 rfl rfl rfl
      refine ⟨x, m, _, E, sl, act, ser, wk, shl, T2, some (optV (sl i)), some (.bl false), p22, ?_, ⟨w3.mono (Nat.le_succ _), h.ab, iv2, h.wl, oL (by show T0.s.L = _; rw [s0.2.1]), h.hM, h.xL, h.f12⟩, s0.1, hz.upd hTm (Nat.le_succ _) (by show T0.s.del.length ≤ _; rw [s0.2.1]; exact Nat.le_succ _) s0.2.2.1⟩
      rw [tq3b_eq, v_seq, b0, then_next, v_seq, b1, then_next, v_seq, b2, then_next, v_seq, b3, then_next, v_seq]
      rw [b4, then_next, b5]
  · -- it makes a step
    have mok : mc.ok t := by
      have p := p0.1
      have q := p0.2
      rw [hsk] at p
      generalize T0.ph = ph0 at p q
      cases p <;> first
        | (simp at q; done)
        | trivial
        | assumption
    have hdl := hz.del T hTm
    obtain ⟨x', m', G2, D', b2, w2, ab2, hM2, hL2, hr⟩ := b2_9 (sc := sc) (tp := tp) (st := st) (fr := fr) (act := act) (ser := ser) (k := k) (nu := nu) (S0 := T.S0) (o17 := o17) (o18 := o18) (o19 := some (optV (sl i))) (o20 := o20) (o21 := o21) (o22 := o22) (o23 := o23) (o24 := o24) (o25 := o25) w1 h.hM hsk mok h.ab (by rw [s0.2.1]; exact ti.th) hL0 hit hN (by rw [s0.2.1]; omega) (by rw [s0.2.1, totD_flat]; omega) q60
    have p := p0.1
    rw [hsk] at p
    obtain ⟨p22, G3, b35, w3⟩ := b35_9 (sc := sc) (tp := tp) (st := st) (fr := fr) (k := k) (nu := nu) (S0 := T.S0) (o17 := o17) (o18 := o18) (o21 := o21) (o22 := o22) (o23 := o23) (o24 := o24) (o25 := o25) w2 (hM2.trans h.hM) ab2 hit h.iv.lS q70 p (by have := hz.act; omega) h.iv.ga hr p0.2
    let T2 : Th9 := T0.stepped D' (nx9 t i E sl T0.s mc)
    have iv2 := iv0.stepM (T' := T2) hi0 hsk p0.2 rfl rfl rfl rfl
    rw [set_set'] at iv2
    rw [← set_self q12, ← s0.2.2.2] at w3
    have e6 : T2.skV = T0.skV := by
      show (match some ((nx9 t i E sl T0.s mc).mc, (nx9 t i E sl T0.s mc).res) with
        | some _ => Val.obj T0.K
        | none => Val.non) = _
      unfold Th9.skV
      rw [hsk]
    have w4 := fin (T' := T2) w3 (by rw [e6]) rfl rfl
    refine ⟨x', m', G3, _, _, _, _, wk, _, T2, some (optV (sl i)), some (.bl true), p22, ?_, ⟨w4, ab2, iv2, h.wl, oL (by show (nx9 t i E sl T0.s mc).s.L = _; rw [nx9_th.2, s0.2.1]), hM2.trans h.hM, hL2.trans h.xL, h.f12⟩, s0.1, hz.upd hTm actN_len (by show (nx9 t i E sl T0.s mc).s.del.length ≤ _; have := nx9_del (t := t) (i := i) (E := E) (sl := sl) (s := T0.s) (mc := mc); rw [s0.2.1] at this ⊢; exact this) s0.2.2.1⟩
    rw [tq3b_eq, v_seq, b0, then_next, v_seq, b1, then_next, v_seq, b2, then_next, v_seq, b35]
end
/-! ### law k09: what the law looks at behind a turn -/
section
variable {x x1 : Mx} {m m1 : Me} {G G1 : Store} {N t th c j i M L k n S0 D K ML S ph kk b : Nat} {F F' R P P' Q : List (Nat × Ob)} {o o' : Ob} {v sc : Val} {E nu : Int} {sl : Nat → Option Int} {l6 l7 l8 l9 l12 st fr : List Val} {act : Cs} {ser : Int} {wk tp : List Int} {shl : List (Option Int)} {fs : List (List Int)} {Ts : List Th9} {T T' : Th9} {A : A9} {s s' : Sto} {first : List Int} {r : Rw9}
theorem r1_9 : fIx (rwV r) (.int 1) G = .ok (.obj r.a1) G := fIx_f1
theorem r2_9 : fIx (rwV r) (.int 2) G = .ok (.obj r.a2) G := fIx_f2
theorem r0_9 : fIx (rwV r) (.int 0) G = .ok (.int r.cell) G := fIx_f0
/-- calls become known in a row -/
theorem known_in {v0 v3 : Option Val} {va : Val} {r : Rw9} : ∀ (cs : Cs) (l2 : Cs) (G : Store) (o4 : Option Val), W9 N t x m (F ++ (r.a2, Ob.lst (l2.map pv)) :: R) G → l2.length + cs.length ≤ 900000 → ∃ p4 G', forIt (.nm 4) b__law_known_l1 (cs.map pv) [v0, some va, some (rwV r), v3, o4] G = .next [v0, some va, some (rwV r), v3, p4] G' ∧ W9 N t x m (F ++ (r.a2, Ob.lst ((knowL cs l2).map pv)) :: R) G'
  | [], l2, G, o4, w, _ => ⟨o4, G, rfl, w⟩
  | c :: cs, l2, G, o4, w, hl => by
    simp only [List.length_cons] at hl
    have g2 : G[r.a2]? = some (.lst (l2.map pv)) := w.at_ (r.a2, _) (by simp)
    have it : fInA true (pv c) (.obj r.a2) G = .ok (.bl (true != decide (c ∈ l2))) G := fIn_pvs (items_obj g2)
    rw [List.map_cons, v_forCons]
    simp only [pt_nm, List.set_cons_succ, List.set_cons_zero]
    by_cases hc : c ∈ l2
    · obtain ⟨p4, G', ih, w'⟩ := known_in cs l2 G (some (pv c)) w (by omega)
      refine ⟨p4, G', ?_, ?_⟩
      · have eb : b__law_known_l1 [v0, some va, some (rwV r), v3, some (pv c)] G = .next [v0, some va, some (rwV r), v3, some (pv c)] G := by
          unfold b__law_known_l1
          simp [r2_9, it, hc]
        rw [eb]
        exact ih
      · have : knowL (c :: cs) l2 = knowL cs l2 := by unfold knowL; rw [List.foldl_cons, if_pos hc]
        rw [this]
        exact w'
    · have ap : setLst (.obj r.a2) (fun l => if l.length < sizeLine then some (l ++ [pv c]) else none) G = some (G.set r.a2 (.lst ((l2 ++ [c]).map pv))) := by
        rw [setLst_obj g2 (if_pos (small_lt (by rw [List.length_map]; omega))), List.map_append]
        rfl
      obtain ⟨p4, G', ih, w'⟩ := known_in cs (l2 ++ [c]) _ (some (pv c)) (w.putM (.lst ((l2 ++ [c]).map pv))) (by rw [List.length_append]; simp; omega)
      refine ⟨p4, G', ?_, ?_⟩
      · have eb : b__law_known_l1 [v0, some va, some (rwV r), v3, some (pv c)] G = .next [v0, some va, some (rwV r), v3, some (pv c)] (G.set r.a2 (.lst ((l2 ++ [c]).map pv))) := by
          unfold b__law_known_l1 eApp
          simp [r2_9, it, hc, g2, ap, -List.map_append]
        rw [eb]
        exact ih
      · have : knowL (c :: cs) l2 = knowL cs (l2 ++ [c]) := by unfold knowL; rw [List.foldl_cons, if_neg hc]
        rw [this]
        exact w'
theorem known_row {v0 : Option Val} {r : Rw9} {o3 o4 : Option Val} (w : W9 N t x m (F ++ (rwP r ++ R)) G) (h1 : r.l1.length ≤ 1000) (hl : r.l2.length + act.length ≤ 900000) : ∃ p3 p4 G', b__law_known_l2 [v0, some (.fro (act.map pv)), some (rwV r), o3, o4] G = .next [v0, some (.fro (act.map pv)), some (rwV r), p3, p4] G' ∧ W9 N t x m (F ++ (rwP (knowR act r) ++ R)) G' := by
  have g1 : G[r.a1]? = some (.lst (r.l1.map pv)) := w.at_ (r.a1, _) (by simp [rwP])
  have lc : eLcF true (eOp fIx (eVar 2) (eC (.int 1))) (.nm 4) (eTest (eOp (fInA false) (eVar 4) (eVar 1))) (eVar 4) [4] [v0, some (.fro (act.map pv)), some (rwV r), o3, o4] G = .ok (.fro ((r.l1.filter fun c => decide (c ∈ act)).map pv)) G := by
    rw [eLcF_obj (enc := pv) r.l1 (fun c => decide (c ∈ act)) pv (i := r.a1) (by simp [r1_9]) g1 (by omega) fun c hc => ?_]
    · rfl
    · refine ⟨_, rfl, ?_, fun _ => by simp [wipe1]⟩
      have it : fInA false (pv c) (.fro (act.map pv)) G = .ok (.bl (false != decide (c ∈ act))) G := fIn_pvs rfl
      simp [wipe1, it]
  unfold b__law_known_l2
  by_cases hn : (r.l1.filter fun c => decide (c ∈ act)) = []
  · have ek : knowR act r = r := if_pos hn
    rw [hn] at lc
    rw [ek]
    exact ⟨some (.fro []), o4, G, by simp [lc], w⟩
  · have ek : knowR act r = { r with l2 := knowL act r.l2 } := if_neg hn
    have e1 : F ++ (rwP r ++ R) = (F ++ [(r.a1, Ob.lst (r.l1.map pv))]) ++ (r.a2, Ob.lst (r.l2.map pv)) :: R := by simp [rwP]
    rw [e1] at w
    obtain ⟨p4, G', lo, w'⟩ := known_in (v0 := v0) (v3 := some (.fro ((r.l1.filter fun c => decide (c ∈ act)).map pv))) (va := .fro (act.map pv)) (r := r) act r.l2 G o4 w hl
    refine ⟨some (.fro ((r.l1.filter fun c => decide (c ∈ act)).map pv)), p4, G', ?_, ?_⟩
    · have bl : bLen [.fro ((r.l1.filter fun c => decide (c ∈ act)).map pv)] G = .ok (.int ((r.l1.filter fun c => decide (c ∈ act)).length : Int)) G := by rw [bLen_fro, List.length_map]
      have hp : (0 : Int) < ((r.l1.filter fun c => decide (c ∈ act)).length : Int) := by
        have := List.length_pos_iff.mpr hn
        omega
      rw [v_seq, v_set, lc, toS_ok, then_next, v_if]
      simp only [e_test, e_op, e_call, e_aCons, e_aNil, e_var, e_c, List.set_cons_succ, List.set_cons_zero, List.getElem?_cons_succ, List.getElem?_cons_zero, bind_ok, bl, fGt_ii, hp, decide_true, toS_ok, if_true, v_forA]
      exact lo
    · rw [ek]
      simpa [rwP] using w'
theorem known_rows {v0 : Option Val} : ∀ (rows : List Rw9) (F : List (Nat × Ob)) (G : Store) (o2 o3 o4 : Option Val), W9 N t x m (F ++ (rows.flatMap rwP ++ R)) G → (∀ r ∈ rows, r.l1.length ≤ 1000 ∧ r.l2.length + act.length ≤ 900000) → ∃ p2 p3 p4 G', forIt (.nm 2) b__law_known_l2 (rows.map rwV) [v0, some (.fro (act.map pv)), o2, o3, o4] G = .next [v0, some (.fro (act.map pv)), p2, p3, p4] G' ∧ W9 N t x m (F ++ ((rows.map (knowR act)).flatMap rwP ++ R)) G'
  | [], F, G, o2, o3, o4, w, _ => ⟨o2, o3, o4, G, rfl, w⟩
  | r :: rows, F, G, o2, o3, o4, w, hl => by
    rw [List.flatMap_cons, List.append_assoc] at w
    obtain ⟨h1, h2⟩ := hl r (List.mem_cons_self ..)
    obtain ⟨p3, p4, G1, e1, w1⟩ := known_row (v0 := v0) (o3 := o3) (o4 := o4) w h1 h2
    rw [← List.append_assoc] at w1
    obtain ⟨q2, q3, q4, G2, e2, w2⟩ := known_rows rows (F ++ rwP (knowR act r)) G1 (some (rwV r)) p3 p4 w1 fun q hq => hl q (List.mem_cons_of_mem _ hq)
    refine ⟨q2, q3, q4, G2, ?_, ?_⟩
    · rw [List.map_cons, v_forCons]
      simp only [pt_nm, List.set_cons_succ, List.set_cons_zero]
      rw [e1]
      exact e2
    · rw [List.map_cons, List.flatMap_cons, List.append_assoc, ← List.append_assoc]
      exact w2
theorem s_known (w : W9 N t x m (F ++ (T.rwsP ++ R)) G) (hl : ∀ r ∈ T.rows, r.l1.length ≤ 1000 ∧ r.l2.length + act.length ≤ 900000) : ∃ G', m__law_known [T.rwsV, .fro (act.map pv)] G = .ok .non G' ∧ W9 N t x m (F ++ ((T.rows.map (knowR act)).flatMap rwP ++ R)) G' := by
  obtain ⟨p2, p3, p4, G', e, w'⟩ := known_rows (v0 := some T.rwsV) T.rows F G none none none w hl
  refine ⟨G', ?_, w'⟩
  unfold m__law_known b__law_known
  rw [run_eq (by rfl)]
  have e' : forIt (.nm 2) b__law_known_l2 (T.rows.map rwV) [some (.fro (T.rows.map rwV)), some (.fro (act.map pv)), none, none, none] G = _ := e
  unfold Th9.rwsV
  simp [e']
/-! no cell is free too early -/
theorem held_in {v0 v1 v2 v3 : Option Val} {r : Rw9} (g1 : G[r.a1]? = some (.lst (r.l1.map pv))) (g2 : G[r.a2]? = some (.lst (r.l2.map pv))) : ∀ (cs : Cs) (o5 : Option Val), (∀ c ∈ cs, c ∉ r.l1 ∧ c ∉ r.l2) → ∃ p5, forIt (.nm 5) b__law_held_l1 (cs.map pv) [v0, v1, v2, v3, some (rwV r), o5] G = .next [v0, v1, v2, v3, some (rwV r), p5] G
  | [], o5, _ => ⟨o5, rfl⟩
  | c :: cs, o5, h => by
    obtain ⟨h1, h2⟩ := h c (List.mem_cons_self ..)
    obtain ⟨p5, ih⟩ := held_in g1 g2 cs (some (pv c)) fun d hd => h d (List.mem_cons_of_mem _ hd)
    refine ⟨p5, ?_⟩
    have i1 : fInA false (pv c) (.obj r.a1) G = .ok (.bl (false != decide (c ∈ r.l1))) G := fIn_pvs (items_obj g1)
    have i2 : fInA false (pv c) (.obj r.a2) G = .ok (.bl (false != decide (c ∈ r.l2))) G := fIn_pvs (items_obj g2)
    rw [List.map_cons, v_forCons]
    simp only [pt_nm, List.set_cons_succ, List.set_cons_zero]
    have eb : b__law_held_l1 [v0, v1, v2, v3, some (rwV r), some (pv c)] G = .next [v0, v1, v2, v3, some (rwV r), some (pv c)] G := by
      unfold b__law_held_l1
      simp [r1_9, r2_9, i1, i2, h1, h2]
    rw [eb]
    exact ih
theorem held_rows {v0 v1 : Option Val} {sp : List Int} : ∀ (rows : List Rw9) (o4 o5 : Option Val), (∀ r ∈ rows, G[r.a1]? = some (.lst (r.l1.map pv)) ∧ G[r.a2]? = some (.lst (r.l2.map pv)) ∧ (r.cell ∈ sp → ∀ c ∈ act, c ∉ r.l1 ∧ c ∉ r.l2)) → ∃ p4 p5, forIt (.nm 4) b__law_held_l2 (rows.map rwV) [v0, v1, some (.fro (act.map pv)), some (.fro (sp.map .int)), o4, o5] G = .next [v0, v1, some (.fro (act.map pv)), some (.fro (sp.map .int)), p4, p5] G
  | [], o4, o5, _ => ⟨o4, o5, rfl⟩
  | r :: rows, o4, o5, h => by
    obtain ⟨h1, h2, h3⟩ := h r (List.mem_cons_self ..)
    rw [List.map_cons, v_forCons]
    simp only [pt_nm, List.set_cons_succ, List.set_cons_zero]
    by_cases hc : r.cell ∈ sp
    · obtain ⟨p5, e1⟩ := held_in (v0 := v0) (v1 := v1) (v2 := some (.fro (act.map pv))) (v3 := some (.fro (sp.map .int))) h1 h2 act o5 (h3 hc)
      obtain ⟨q4, q5, ih⟩ := held_rows rows (some (rwV r)) p5 fun q hq => h q (List.mem_cons_of_mem _ hq)
      refine ⟨q4, q5, ?_⟩
      have eb : b__law_held_l2 [v0, v1, some (.fro (act.map pv)), some (.fro (sp.map .int)), some (rwV r), o5] G = .next [v0, v1, some (.fro (act.map pv)), some (.fro (sp.map .int)), some (rwV r), p5] G := by
        unfold b__law_held_l2
        simp [r0_9, fIn_ints9, hc, e1]
      rw [eb]
      exact ih
    · obtain ⟨q4, q5, ih⟩ := held_rows rows (some (rwV r)) o5 fun q hq => h q (List.mem_cons_of_mem _ hq)
      refine ⟨q4, q5, ?_⟩
      have eb : b__law_held_l2 [v0, v1, some (.fro (act.map pv)), some (.fro (sp.map .int)), some (rwV r), o5] G = .next [v0, v1, some (.fro (act.map pv)), some (.fro (sp.map .int)), some (rwV r), o5] G := by
        unfold b__law_held_l2
        simp [r0_9, fIn_ints9, hc]
      rw [eb]
      exact ih
theorem s_held (hs : StoAt G T.S0 T.D T.s) (h : ∀ r ∈ T.rows, G[r.a1]? = some (.lst (r.l1.map pv)) ∧ G[r.a2]? = some (.lst (r.l2.map pv)) ∧ (r.cell ∈ T.s.spare → ∀ c ∈ act, c ∉ r.l1 ∧ c ∉ r.l2)) : m__law_held [.obj T.S0, T.rwsV, .fro (act.map pv)] G = .ok (.bl true) G := by
  unfold m__law_held b__law_held
  rw [runT_eq (by rfl)]
  have ff := st_free hs
  obtain ⟨p4, p5, e⟩ := held_rows (v0 := some (.obj T.S0)) (v1 := some (.fro (T.rows.map rwV))) (sp := T.s.spare) T.rows none none h
  unfold Th9.rwsV
  simp [methV_1 hs.ins, ff, e, trunc_d0]
/-! no cell is lost -/
theorem wait_for {v0 v1 : Option Val} {acc : List Int} (hb : acc.length + totD s.del + s.out.length ≤ 800000) : ∃ p3, forIt (.nm 3) b__law_whole_l1 (waitV s) [v0, v1, some (.fro (acc.map .int)), none] G = .next [v0, v1, some (.fro ((acc ++ s.del.flatMap (·.2) ++ s.out).map .int)), p3] G := by
  have key : ∀ (qs : List (Val × List Int)) (acc : List Int) (o3 : Option Val), acc.length + (qs.flatMap (·.2)).length ≤ 900000 → ∃ p3, forIt (.nm 3) b__law_whole_l1 (qs.map fun q => .tup [q.1, .fro (q.2.map .int)]) [v0, v1, some (.fro (acc.map .int)), o3] G = .next [v0, v1, some (.fro ((acc ++ qs.flatMap (·.2)).map .int)), p3] G := by
    intro qs
    induction qs with
    | nil => intro acc o3 _; exact ⟨o3, by simp⟩
    | cons q qs ih =>
      intro acc o3 h
      rw [List.flatMap_cons, List.length_append] at h
      obtain ⟨p3, ih⟩ := ih (acc ++ q.2) (some (.tup [q.1, .fro (q.2.map .int)])) (by rw [List.length_append]; omega)
      refine ⟨p3, ?_⟩
      have eb : b__law_whole_l1 [v0, v1, some (.fro (acc.map .int)), some (.tup [q.1, .fro (q.2.map .int)])] G = .next [v0, v1, some (.fro ((acc ++ q.2).map .int)), some (.tup [q.1, .fro (q.2.map .int)])] G := by
        unfold b__law_whole_l1
        have fa := fAdd_ints (G := G) (a := acc) (b := q.2) (by omega)
        simp [fa, -List.map_append]
      rw [List.map_cons, v_forCons]
      simp only [pt_nm, List.set_cons_succ, List.set_cons_zero]
      rw [eb, List.flatMap_cons, ← List.append_assoc]
      exact ih
  rw [totD_flat] at hb
  have e1 : waitV s = ((s.del.map fun q => (Val.int q.1, q.2)) ++ (if s.out = [] then [] else [(Val.non, s.out)])).map fun q => .tup [q.1, .fro (q.2.map .int)] := by
    unfold waitV
    rw [List.map_append, List.map_map]
    congr 1
    split <;> rfl
  have e2 : ((s.del.map fun q => (Val.int q.1, q.2)) ++ (if s.out = [] then [] else [(Val.non, s.out)])).flatMap (·.2) = s.del.flatMap (·.2) ++ s.out := by
    rw [List.flatMap_append, List.flatMap_map]
    congr 1
    split
    · rename_i h; rw [h]; rfl
    · simp
  obtain ⟨p3, e⟩ := key ((s.del.map fun q => (Val.int q.1, q.2)) ++ (if s.out = [] then [] else [(Val.non, s.out)])) acc none (by rw [e2, List.length_append]; omega)
  rw [e2, ← List.append_assoc] at e
  rw [e1]
  exact ⟨p3, e⟩
theorem s_whole (hs : StoAt G S0 D s) (hf : sortI (s.spare ++ s.del.flatMap (·.2) ++ s.out) = first) (hd : s.del.length ≤ 100000) (hb : s.spare.length + totD s.del + s.out.length ≤ 800000) : m__law_whole [.obj S0, .fro (first.map .int)] G = .ok (.bl true) G := by
  unfold m__law_whole b__law_whole
  rw [runT_eq (by rfl)]
  have ff := st_free hs
  have wt := st_waiting hs hd
  obtain ⟨p3, e⟩ := wait_for (v0 := some (.obj S0)) (v1 := some (.fro (first.map .int))) (G := G) (s := s) hb
  have so := bSortX_ints (G := G) (v := .fro ((s.spare ++ s.del.flatMap (·.2) ++ s.out).map .int)) (ns := s.spare ++ s.del.flatMap (·.2) ++ s.out) rfl
  rw [hf] at so
  have eq : fEqA (.fro (first.map .int)) (.fro (first.map .int)) G = .ok (.bl true) G := by
    rw [fEqA_pln pln_ints pln_ints]
    simp
  simp only [List.map_cons, List.map_nil, List.cons_append, List.nil_append, List.replicate, v_seq, v_set, e_call, e_aCons, e_meth, e_aNil, e_var, List.getElem?_cons_zero, List.getElem?_cons_succ, bind_ok, methV_1 hs.ins, ff, bListA_fro, mkL_t, toS_ok, then_next, List.set_cons_succ, List.set_cons_zero, v_forA, wt, e, v_ret, e_op, so, eq, fin_ret, List.append_nil]
  exact trunc_d0 rfl
/-! the slots -/
theorem slots_in (w : W9 N t x m P G) (hM : x.M = M) (ab : Ab9 t m E sl) (ga : Ga9 t E sl act ser shl) {a9 : Nat} (g9 : G[a9]? = some (.lst (shl.map optV))) : ∀ (cs : Cs) (o3 o4 o5 : Option Val), (∀ c ∈ cs, c ∈ act) → ∃ p3 p4 p5, forIt (.nm 3) b__law_slots_l1 (cs.map pv) [some (.obj M), some (.fro (act.map pv)), some (.obj a9), o3, o4, o5] G = .next [some (.obj M), some (.fro (act.map pv)), some (.obj a9), p3, p4, p5] G
  | [], o3, o4, o5, _ => ⟨o3, o4, o5, rfl⟩
  | c :: cs, o3, o4, o5, h => by
    obtain ⟨j, e1, ht, _, e, e2, e3, e4, e5⟩ := ga.a c (h c (List.mem_cons_self ..))
    have hm := w.b.at_.mem
    rw [hM] at hm
    have p0 := pk09 w hM ab
    have p1 := pk9 w hM ab ht
    rw [e2] at p1
    have p1' : m_Memory_peek [.obj M, .int (1 + (j : Int))] G = .ok (.int e) G := p1
    have c0 : fIx (pv c) (.int 0) G = .ok (.int (j : Int)) G := by rw [← e1]; exact fIx_t0
    have i9 : fIx (.obj a9) (.int (j : Int)) G = .ok (.int e) G := ix7 (v := .int e) g9 (by rw [List.getElem?_map, e3]; rfl)
    obtain ⟨q3, q4, q5, ih⟩ := slots_in w hM ab ga g9 cs (some (pv c)) (some (.int E)) (some (.int e)) fun d hd => h d (List.mem_cons_of_mem _ hd)
    refine ⟨q3, q4, q5, ?_⟩
    have n1 : ¬ E < e := by omega
    have n2 : ¬ e + 1 < E := by omega
    have eb : b__law_slots_l1 [some (.obj M), some (.fro (act.map pv)), some (.obj a9), some (pv c), o4, o5] G = .next [some (.obj M), some (.fro (act.map pv)), some (.obj a9), some (pv c), some (.int E), some (.int e)] G := by
      unfold b__law_slots_l1
      simp [methV_1 hm, p0, c0, p1', i9, n1, n2]
    rw [List.map_cons, v_forCons]
    simp only [pt_nm, List.set_cons_succ, List.set_cons_zero]
    rw [eb]
    exact ih
theorem s_slots (w : W9 N t x m P G) (hM : x.M = M) (ab : Ab9 t m E sl) (ga : Ga9 t E sl act ser shl) {a9 : Nat} (g9 : G[a9]? = some (.lst (shl.map optV))) : m__law_slots [.obj M, .fro (act.map pv), .obj a9] G = .ok (.bl true) G := by
  unfold m__law_slots b__law_slots
  rw [run_eq (by rfl)]
  obtain ⟨p3, p4, p5, e⟩ := slots_in w hM ab ga g9 act none none none fun c hc => hc
  simp [e]
end
/-! ### law k09: the turns -/
section
variable {x x1 : Mx} {m m1 : Me} {G G1 : Store} {N t th c j i M L k n S0 D K ML S ph kk b : Nat} {F F' R P P' Q : List (Nat × Ob)} {o o' : Ob} {v sc : Val} {E nu : Int} {sl : Nat → Option Int} {l6 l7 l8 l9 l12 st fr : List Val} {act : Cs} {ser : Int} {wk tp : List Int} {shl : List (Option Int)} {fs : List (List Int)} {Ts : List Th9} {T T' : Th9} {A : A9} {s s' : Sto} {first : List Int} {r : Rw9} {o14 o15 o16 o17 o18 o19 o20 o21 o22 o23 o24 o25 : Option Val}
/-- how the law's stores and first cells stand in its variables -/
structure Fx9 (t : Nat) (st fr : List Val) (fs : List (List Int)) (Ts : List Th9) : Prop where
  st : st = Ts.map fun T => Val.obj T.S0
  fr : fr = fs.map fun f => Val.fro (f.map .int)
theorem Fx9.upd (h : Fx9 t st fr fs Ts) (hi : Ts[i]? = some T) (e : T'.S0 = T.S0) : Fx9 t st fr fs (Ts.set i T') := ⟨by
  rw [List.map_set, e, h.st]
  exact (set_self (by rw [List.getElem?_map, hi]; rfl)).symm, h.fr⟩
/-- one thread is looked at -/
theorem look9 (h : L9 N t M L A x m G E sl act ser wk shl fs Ts) (hi : Ts[i]? = some T) (hz : Z9 n b act Ts) (hn : n ≤ 400) (hb : b ≤ 800000) (fx : Fx9 t st fr fs Ts) :
    ∃ G', b_law_l2 (e9 sc tp t M st fr A act ser (some (.int (k : Int))) o14 o15 o16 (some (.int (i : Int))) o18 o19 o20 o21 o22 o23 o24 o25) G = .next (e9 sc tp t M st fr A act ser (some (.int (k : Int))) o14 o15 o16 (some (.int (i : Int))) o18 o19 o20 o21 o22 o23 o24 o25) G' ∧ L9 N t M L A x m G' E sl act ser wk shl fs (Ts.set i { T with rows := T.rows.map (knowR act) }) := by
  obtain ⟨hlt, hTi⟩ := List.getElem?_eq_some_iff.mp hi
  have hit : i < t := by rw [← h.iv.lT]; exact hlt
  have hlf : i < fs.length := by rw [h.iv.lF]; exact hit
  have hf := List.getElem?_eq_getElem hlf
  have hTm := List.mem_of_getElem? hi
  have ti := h.iv.ti i T _ hi hf
  have pl := ti.perm.length_eq
  have fl := h.f12 _ (List.getElem_mem hlf)
  simp only [List.length_append] at pl
  obtain ⟨R, w0, fin⟩ := h.focus hi
  have q6 : (Ts.map Th9.skV)[i]? = some T.skV := by rw [List.getElem?_map, hi]; rfl
  have q7 : (Ts.map fun T => Val.str T.ph)[i]? = some (.str T.ph) := by rw [List.getElem?_map, hi]; rfl
  have q12 : (Ts.map Th9.rwsV)[i]? = some T.rwsV := by rw [List.getElem?_map, hi]; rfl
  have e0 : lw9 A (Ts.map Th9.skV) (Ts.map fun T => .str T.ph) (wk.map .int) (shl.map optV) (Ts.map Th9.rwsV) ++ (blk9 t T ++ R) = (lw9 A (Ts.map Th9.skV) (Ts.map fun T => .str T.ph) (wk.map .int) (shl.map optV) (Ts.map Th9.rwsV) ++ (T.skP t ++ stoP T.S0 T.D T.s)) ++ (T.rwsP ++ R) := by
    unfold blk9
    simp only [List.append_assoc]
  have w1 := w0
  rw [e0] at w1
  obtain ⟨G', ek, w2⟩ := s_known (act := act) w1 fun r hr => ⟨by have := hz.l1 T hTm r hr; omega, by have := hz.l2 T hTm r hr; have := hz.act; omega⟩
  let T1 : Th9 := { T with rows := T.rows.map (knowR act) }
  have rv : T1.rwsV = T.rwsV := by
    show Val.fro ((T.rows.map (knowR act)).map rwV) = Val.fro (T.rows.map rwV)
    rw [List.map_map]
    congr 2
    funext r
    show Val.fro [.int (knowR act r).cell, .obj (knowR act r).a1, .obj (knowR act r).a2] = _
    obtain ⟨a1, a2, a3, _⟩ := knowR_same (act := act) (r := r)
    rw [a1, a2, a3]
    rfl
  have e1 : (lw9 A (Ts.map Th9.skV) (Ts.map fun T => .str T.ph) (wk.map .int) (shl.map optV) (Ts.map Th9.rwsV) ++ (T.skP t ++ stoP T.S0 T.D T.s)) ++ ((T.rows.map (knowR act)).flatMap rwP ++ R) = lw9 A (Ts.map Th9.skV) (Ts.map fun T => .str T.ph) (wk.map .int) (shl.map optV) (Ts.map Th9.rwsV) ++ (blk9 t T1 ++ R) := by
    have : blk9 t T1 = T.skP t ++ stoP T.S0 T.D T.s ++ (T.rows.map (knowR act)).flatMap rwP := rfl
    rw [this]
    simp only [List.append_assoc]
  have w3 := w2
  rw [e1] at w3
  have w4 := fin (T' := T1) w3 (set_self q6).symm (set_self q7).symm (by rw [rv]; exact (set_self q12).symm)
  have iv1 := h.iv.known hi
  have hi1 : (Ts.set i T1)[i]? = some T1 := List.getElem?_set_self hlt
  have hs1 : StoAt G' T1.S0 T1.D T1.s := stoOf9 (Q1 := lw9 A (Ts.map Th9.skV) (Ts.map fun T => .str T.ph) (wk.map .int) (shl.map optV) (Ts.map Th9.rwsV) ++ T.skP t) (Q2 := (T.rows.map (knowR act)).flatMap rwP ++ R) (by
    simpa only [List.append_assoc] using w2)
  have ti1 := iv1.ti i T1 _ hi1 hf
  have hl9 : ∀ U ∈ Ts.set i T1, U.s.L = L := fun U hU => by
    rcases List.mem_or_eq_of_mem_set hU with hU | rfl
    · exact h.hL U hU
    · exact h.hL T hTm
  refine ⟨G', ?_, ⟨w4, h.ab, iv1, h.wl, hl9, h.hM, h.xL, h.f12⟩⟩
  have eh : m__law_held [.obj T.S0, T.rwsV, .fro (act.map pv)] G' = .ok (.bl true) G' := by
    rw [← rv]
    refine s_held (T := T1) hs1 fun r hr => ⟨?_, ?_, fun hc => (iv1.rk T1 (List.mem_of_getElem? hi1) r hr).fre hc⟩
    · exact w2.at_ (r.a1, _) (List.mem_append_right _ (List.mem_append_left _ (List.mem_flatMap.mpr ⟨r, hr, by simp [rwP]⟩)))
    · exact w2.at_ (r.a2, _) (List.mem_append_right _ (List.mem_append_left _ (List.mem_flatMap.mpr ⟨r, hr, by simp [rwP]⟩)))
  have ew : m__law_whole [.obj T.S0, .fro (fs[i].map .int)] G' = .ok (.bl true) G' := s_whole hs1 (whole9 ti1 (h.iv.fo _ (List.getElem_mem hlf)).2) (by have := hz.del T hTm; show T.s.del.length ≤ _; omega) (by show T.s.spare.length + totD T.s.del + T.s.out.length ≤ _; rw [totD_flat]; omega)
  have i12 := ix7 w0.g12 q12
  have i4 : ∀ J, fIx (.fro st) (.int (i : Int)) J = .ok (.obj T.S0) J := fun J => by
    rw [fx.st]
    exact fIx_at rfl (by rw [List.getElem?_map, hi]; rfl)
  have i5 : ∀ J, fIx (.fro fr) (.int (i : Int)) J = .ok (.fro (fs[i].map .int)) J := fun J => by
    rw [fx.fr]
    exact fIx_at rfl (by rw [List.getElem?_map, hf]; rfl)
  have i12' := ix7 w3.g12 q12
  have dr : ∃ l, T.rwsV = .fro l := ⟨_, rfl⟩
  unfold b_law_l2
  simp only [e9, v_seq, v_ex, e_callF, e_aCons, e_op, e_var, e_aNil, List.getElem?_cons_succ, List.getElem?_cons_zero, bind_ok, i12, List.append_nil, ek, toS_ok, then_next, v_if, e_tor, e_tnot, e_truth, i4, i12', eh, truth_bl, i5, ew, Bool.not_true, Bool.false_eq_true, if_false, v_pass]
theorem looks9 {q17 : Option Val} (hn : n ≤ 400) (jn : Nat) : ∀ (j : Nat) (b : Nat) (G : Store) (Ts : List Th9) (o17 : Option Val), j + jn = t → L9 N t M L A x m G E sl act ser wk shl fs Ts → Z9 n b act Ts → b + jn * n ≤ 700000 → Fx9 t st fr fs Ts → ∃ G' Ts' p17, forIt (.nm 17) b_law_l2 ((List.range' j jn).map fun (k : Nat) => Val.int (k : Int)) (e9 sc tp t M st fr A act ser (some (.int (k : Int))) o14 o15 o16 o17 o18 o19 o20 o21 o22 o23 o24 o25) G = .next (e9 sc tp t M st fr A act ser (some (.int (k : Int))) o14 o15 o16 p17 o18 o19 o20 o21 o22 o23 o24 o25) G' ∧ L9 N t M L A x m G' E sl act ser wk shl fs Ts' ∧ Z9 n (b + jn * n) act Ts' ∧ Fx9 t st fr fs Ts' := by
  induction jn with
  | zero =>
    intro j b G Ts o17 _ h hz _ fx
    exact ⟨G, Ts, o17, rfl, h, by simpa using hz, fx⟩
  | succ jn ih =>
    intro j b G Ts o17 hj h hz hb fx
    have hjt : j < t := by omega
    obtain ⟨T, f, hi, hf, ti⟩ := h.iv.get hjt
    rw [Nat.add_one_mul] at hb
    obtain ⟨G1, e1, h1⟩ := look9 (sc := sc) (tp := tp) (k := k) (o14 := o14) (o15 := o15) (o16 := o16) (o18 := o18) (o19 := o19) (o20 := o20) (o21 := o21) (o22 := o22) (o23 := o23) (o24 := o24) (o25 := o25) h hi hz hn (by omega) fx
    have z1 := hz.known (i := j) (List.mem_of_getElem? hi)
    obtain ⟨G2, Ts2, p17, e2, h2, z2, fx2⟩ := ih (j + 1) (b + n) G1 _ (some (.int (j : Int))) (by omega) h1 z1 (by omega) (fx.upd hi rfl)
    refine ⟨G2, Ts2, p17, ?_, h2, by rw [Nat.add_one_mul]; refine z2.wide (by omega), fx2⟩
    rw [List.range'_succ, List.map_cons, v_forCons]
    have ep : ptSet G (.nm 17) (.int (j : Int)) (e9 sc tp t M st fr A act ser (some (.int (k : Int))) o14 o15 o16 o17 o18 o19 o20 o21 o22 o23 o24 o25) = some (e9 sc tp t M st fr A act ser (some (.int (k : Int))) o14 o15 o16 (some (.int (j : Int))) o18 o19 o20 o21 o22 o23 o24 o25) := rfl
    rw [ep]
    simp only
    rw [e1]
    exact e2
/-- one turn -/
theorem turn9 (h : L9 N t M L A x m G E sl act ser wk shl fs Ts) (hz : Z9 n b act Ts) (hn : n ≤ 300) (hN : N < 80000) (ht : 0 < t) (ht3 : t ≤ 3) (hb : b + 4 * 301 ≤ 700000) (fx : Fx9 t st fr fs Ts) :
    ∃ x' m' G' E' sl' act' ser' wk' shl' Ts' p14 p15 p16 p17 p19 p20 p21 p22, b_law_l3 (e9 sc tp t M st fr A act ser (some (.int (k : Int))) o14 o15 o16 o17 o18 o19 o20 o21 o22 o23 o24 o25) G = .next (e9 sc tp t M st fr A act' ser' (some (.int (k : Int))) p14 p15 p16 p17 o18 p19 p20 p21 p22 o23 o24 o25) G' ∧ L9 (N + 1) t M L A x' m' G' E' sl' act' ser' wk' shl' fs Ts' ∧ Z9 (n + 1) (b + 4 * (n + 1)) act' Ts' ∧ Fx9 t st fr fs Ts' := by
  have la := s_lat (G := G) (tp := tp) (k := k + 1)
  have ek : ((k + 1 : Nat) : Int) = (k : Int) + 1 := by omega
  rw [ek] at la
  generalize hnu : lat tp (k + 1) = nu at la
  obtain ⟨i, e1, b1⟩ : ∃ i : Nat, (i : Int) = nu % (t : Int) ∧ (i : Int) < (t : Int) := ⟨(nu % (t : Int)).toNat, by have := Int.emod_nonneg nu (by omega : (t : Int) ≠ 0); omega, by have := Int.emod_nonneg nu (by omega : (t : Int) ≠ 0); have := Int.emod_lt_of_pos nu (by omega : 0 < (t : Int)); omega⟩
  have hit : i < t := by omega
  obtain ⟨T, f, hi, hf, ti⟩ := h.iv.get hit
  obtain ⟨R, w0, fin⟩ := h.focus hi
  have q7 : (Ts.map fun T => Val.str T.ph)[i]? = some (.str T.ph) := by rw [List.getElem?_map, hi]; rfl
  have t0 : tq0 (e9 sc tp t M st fr A act ser (some (.int (k : Int))) o14 o15 o16 o17 o18 o19 o20 o21 o22 o23 o24 o25) G = .next (e9 sc tp t M st fr A act ser (some (.int (k : Int))) o14 (some (.int nu)) o16 o17 o18 o19 o20 o21 o22 o23 o24 o25) G := by
    unfold tq0
    simp [e9, la]
  have t1 : tq1 (e9 sc tp t M st fr A act ser (some (.int (k : Int))) o14 (some (.int nu)) o16 o17 o18 o19 o20 o21 o22 o23 o24 o25) G = .next (e9 sc tp t M st fr A act ser (some (.int (k : Int))) (some (.int (i : Int))) (some (.int nu)) o16 o17 o18 o19 o20 o21 o22 o23 o24 o25) G := by
    have md : fMod (.int nu) (.int (t : Int)) G = .ok (.int (i : Int)) G := by rw [fMod_ii (by omega), e1]
    unfold tq1
    simp [e9, md]
  have t2 : tq2 (e9 sc tp t M st fr A act ser (some (.int (k : Int))) (some (.int (i : Int))) (some (.int nu)) o16 o17 o18 o19 o20 o21 o22 o23 o24 o25) G = .next (e9 sc tp t M st fr A act ser (some (.int (k : Int))) (some (.int (i : Int))) (some (.int nu)) (some (.obj T.S0)) o17 o18 o19 o20 o21 o22 o23 o24 o25) G := by
    have i4 : fIx (.fro st) (.int (i : Int)) G = .ok (.obj T.S0) G := by
      rw [fx.st]
      exact fIx_at rfl (by rw [List.getElem?_map, hi]; rfl)
    unfold tq2
    simp [e9, i4]
  have t3 : ∃ x' m' G' E' sl' act' ser' wk' shl' T' p19 p20 p21 p22, tq3 (e9 sc tp t M st fr A act ser (some (.int (k : Int))) (some (.int (i : Int))) (some (.int nu)) (some (.obj T.S0)) o17 o18 o19 o20 o21 o22 o23 o24 o25) G = .next (e9 sc tp t M st fr A act' ser' (some (.int (k : Int))) (some (.int (i : Int))) (some (.int nu)) (some (.obj T.S0)) o17 o18 p19 p20 p21 p22 o23 o24 o25) G' ∧ L9 (N + 1) t M L A x' m' G' E' sl' act' ser' wk' shl' fs (Ts.set i T') ∧ T'.S0 = T.S0 ∧ Z9 (n + 1) (b + n + 1) act' (Ts.set i T') := by
    by_cases hp : T.ph = 34
    · obtain ⟨x', m', G', wk', T', p21, a1, a2, a3, a4⟩ := inn9 (sc := sc) (tp := tp) (st := st) (fr := fr) (k := k) (nu := nu) (o17 := o17) (o18 := o18) (o19 := o19) (o20 := o20) (o21 := o21) (o22 := o22) (o23 := o23) (o24 := o24) (o25 := o25) h hi hp hz hn hN ht3
      refine ⟨x', m', G', E, sl, act, ser, wk', shl, T', o19, o20, p21, o22, ?_, a2, a3, a4⟩
      have ec : eTest (eOp fEqA (eOp fIx (eVar 7) (eVar 14)) (eC (.str 34))) (e9 sc tp t M st fr A act ser (some (.int (k : Int))) (some (.int (i : Int))) (some (.int nu)) (some (.obj T.S0)) o17 o18 o19 o20 o21 o22 o23 o24 o25) G = .ok true G := by simp [e9, ix7 w0.g7 q7, hp]
      rw [tq3_eq, v_if, ec, toS_ok, if_pos rfl, a1]
    · obtain ⟨x', m', G', E', sl', act', ser', wk', shl', T', p19, p20, p22, a1, a2, a3, a4⟩ := els9 (sc := sc) (tp := tp) (st := st) (fr := fr) (k := k) (nu := nu) (o17 := o17) (o18 := o18) (o19 := o19) (o20 := o20) (o21 := o21) (o22 := o22) (o23 := o23) (o24 := o24) (o25 := o25) h hi hp hz hn hN ht3
      refine ⟨x', m', G', E', sl', act', ser', wk', shl', T', p19, p20, o21, p22, ?_, a2, a3, a4.wide (by omega)⟩
      have ec : eTest (eOp fEqA (eOp fIx (eVar 7) (eVar 14)) (eC (.str 34))) (e9 sc tp t M st fr A act ser (some (.int (k : Int))) (some (.int (i : Int))) (some (.int nu)) (some (.obj T.S0)) o17 o18 o19 o20 o21 o22 o23 o24 o25) G = .ok false G := by simp [e9, ix7 w0.g7 q7, hp]
      rw [tq3_eq, v_if, ec, toS_ok, if_neg (by decide), a1]
  obtain ⟨x', m', G', E', sl', act', ser', wk', shl', T', p19, p20, p21, p22, e3, h3, s3, z3⟩ := t3
  have jn : t * (n + 1) ≤ 3 * (n + 1) := Nat.mul_le_mul_right _ ht3
  obtain ⟨G2, Ts2, p17, e4, h4, z4, fx4⟩ := looks9 (q17 := none) (sc := sc) (tp := tp) (k := k) (o14 := some (.int (i : Int))) (o15 := some (.int nu)) (o16 := some (.obj T.S0)) (o18 := o18) (o19 := p19) (o20 := p20) (o21 := p21) (o22 := p22) (o23 := o23) (o24 := o24) (o25 := o25) (n := n + 1) (by omega) t 0 (b + n + 1) G' _ o17 (by omega) h3 z3 (by omega) (fx.upd hi s3)
  have sls := s_slots h4.w h4.hM h4.ab h4.iv.ga (a9 := A.a9) (h4.w.at_ (A.a9, _) (by simp [pp9, lw9]))
  refine ⟨x', m', G2, E', sl', act', ser', wk', shl', Ts2, some (.int (i : Int)), some (.int nu), some (.obj T.S0), p17, p19, p20, p21, p22, ?_, h4, z4.wide (by omega), fx4⟩
  rw [tq_def, tq_eq, v_seq, t0, then_next, v_seq, t1, then_next, v_seq, t2, then_next, v_seq, e3, then_next, v_seq]
  have e4' : tq4 (e9 sc tp t M st fr A act' ser' (some (.int (k : Int))) (some (.int (i : Int))) (some (.int nu)) (some (.obj T.S0)) o17 o18 p19 p20 p21 p22 o23 o24 o25) G' = .next (e9 sc tp t M st fr A act' ser' (some (.int (k : Int))) (some (.int (i : Int))) (some (.int nu)) (some (.obj T.S0)) p17 o18 p19 p20 p21 p22 o23 o24 o25) G2 := by
    have rg := rng1_nat (n := t) (by omega)
    unfold tq4
    rw [v_forR]
    have ev : aCons (eVar 2) aNil (e9 sc tp t M st fr A act' ser' (some (.int (k : Int))) (some (.int (i : Int))) (some (.int nu)) (some (.obj T.S0)) o17 o18 p19 p20 p21 p22 o23 o24 o25) G' = .ok [.int (t : Int)] G' := rfl
    rw [ev, toS_ok, rg]
    exact e4
  rw [e4', then_next]
  unfold tq5
  simp only [v_if, e_tnot, e_truth, e_callF, e_aCons, e_var, e9, List.getElem?_cons_succ, List.getElem?_cons_zero, bind_ok, e_aNil, List.append_nil, sls, truth_bl, Bool.not_true, toS_ok, Bool.false_eq_true, if_false, v_pass]
theorem turns9 (ht : 0 < t) (ht3 : t ≤ 3) (hN : N < 70000) (nn : Nat) : ∀ (k n : Nat) (x : Mx) (m : Me) (G : Store) (E : Int) (sl : Nat → Option Int) (act : Cs) (ser : Int) (wk : List Int) (shl : List (Option Int)) (Ts : List Th9) (o13 o14 o15 o16 o17 o19 o20 o21 o22 : Option Val), n + nn ≤ 300 → L9 (N + n) t M L A x m G E sl act ser wk shl fs Ts → Z9 n (1300 * n) act Ts → Fx9 t st fr fs Ts →
    ∃ x' m' G' E' sl' act' ser' wk' shl' Ts' p13 p14 p15 p16 p17 p19 p20 p21 p22, forIt (.nm 13) b_law_l3 ((List.range' k nn).map fun (k : Nat) => Val.int (k : Int)) (e9 sc tp t M st fr A act ser o13 o14 o15 o16 o17 o18 o19 o20 o21 o22 o23 o24 o25) G = .next (e9 sc tp t M st fr A act' ser' p13 p14 p15 p16 p17 o18 p19 p20 p21 p22 o23 o24 o25) G' ∧ L9 (N + (n + nn)) t M L A x' m' G' E' sl' act' ser' wk' shl' fs Ts' ∧ Z9 (n + nn) (1300 * (n + nn)) act' Ts' ∧ Fx9 t st fr fs Ts' := by
  induction nn with
  | zero =>
    intro k n x m G E sl act ser wk shl Ts o13 o14 o15 o16 o17 o19 o20 o21 o22 _ h hz fx
    exact ⟨x, m, G, E, sl, act, ser, wk, shl, Ts, o13, o14, o15, o16, o17, o19, o20, o21, o22, rfl, h, hz, fx⟩
  | succ nn ih =>
    intro k n x m G E sl act ser wk shl Ts o13 o14 o15 o16 o17 o19 o20 o21 o22 hn h hz fx
    obtain ⟨x1, m1, G1, E1, sl1, act1, ser1, wk1, shl1, Ts1, p14, p15, p16, p17, p19, p20, p21, p22, e1, h1, z1, fx1⟩ := turn9 (sc := sc) (tp := tp) (k := k) (o14 := o14) (o15 := o15) (o16 := o16) (o17 := o17) (o18 := o18) (o19 := o19) (o20 := o20) (o21 := o21) (o22 := o22) (o23 := o23) (o24 := o24) (o25 := o25) h hz (by omega) (by omega) ht ht3 (by omega) fx
    obtain ⟨x2, m2, G2, E2, sl2, act2, ser2, wk2, shl2, Ts2, q13, q14, q15, q16, q17, q19, q20, q21, q22, e2, h2, z2, fx2⟩ := ih (k + 1) (n + 1) x1 m1 G1 E1 sl1 act1 ser1 wk1 shl1 Ts1 (some (.int (k : Int))) p14 p15 p16 p17 p19 p20 p21 p22 (by omega) (by rw [← Nat.add_assoc]; exact h1) (z1.wide (by omega)) fx1
    have en : n + 1 + nn = n + (nn + 1) := by omega
    rw [en] at h2 z2
    refine ⟨x2, m2, G2, E2, sl2, act2, ser2, wk2, shl2, Ts2, q13, q14, q15, q16, q17, q19, q20, q21, q22, ?_, h2, z2, fx2⟩
    rw [List.range'_succ, List.map_cons, v_forCons]
    have ep : ptSet G (.nm 13) (.int (k : Int)) (e9 sc tp t M st fr A act ser o13 o14 o15 o16 o17 o18 o19 o20 o21 o22 o23 o24 o25) = some (e9 sc tp t M st fr A act ser (some (.int (k : Int))) o14 o15 o16 o17 o18 o19 o20 o21 o22 o23 o24 o25) := rfl
    rw [ep]
    simp only
    rw [e1]
    exact e2
end
/-! ### law k09: a thread alone -/
section
variable {x x1 : Mx} {m m1 : Me} {G G1 : Store} {N t th c j i M L k n S0 D K ML S ph kk b : Nat} {F F' R P P' Q : List (Nat × Ob)} {o o' : Ob} {v sc res : Val} {E E' E0 nu e : Int} {sl sl' : Nat → Option Int} {s s' : Sto} {mc mc' : Mc9} {mv sv tv : Val} {o3 o4 o6 : Option Val}
/-- a machine's run to its end -/
def ex9 (t i : Nat) : Nat → Int → (Nat → Option Int) → Sto → Mc9 → Option (Int × (Nat → Option Int) × Sto × Val)
  | 0, _, _, _, _ => none
  | n + 1, E, sl, s, mc => match (nx9 t i E sl s mc).mc with
    | none => some ((nx9 t i E sl s mc).E, (nx9 t i E sl s mc).sl, (nx9 t i E sl s mc).s, (nx9 t i E sl s mc).res)
    | some mc' => ex9 t i n (nx9 t i E sl s mc).E (nx9 t i E sl s mc).sl (nx9 t i E sl s mc).s mc'
theorem scan9_ok {l : List Nat} (h : ∀ k ∈ l, k < t) : (scan9 e l).ok t := by
  cases l with
  | nil => trivial
  | cons a l => exact h
theorem othN_lt : ∀ k ∈ othN t i, k < t := fun k hk => by
  obtain ⟨z, hz, e⟩ := List.mem_range'.mp (List.mem_filter.mp hk).1
  omega
theorem nx9_ok (h : mc.ok t) (e : (nx9 t i E sl s mc).mc = some mc') : mc'.ok t := by
  cases mc with
  | e2 => cases e; trivial
  | e3 a => cases e; trivial
  | e27 a =>
    simp only [nx9] at e
    split at e
    · cases e
    · cases e; trivial
  | l30 => cases e; trivial
  | l28 =>
    simp only [nx9] at e
    split at e
    · cases e
    · cases e; trivial
  | l32 => cases e; exact scan9_ok othN_lt
  | l31 a o os =>
    have go : (scan9 a os).ok t := scan9_ok fun k hk => h k (List.mem_cons_of_mem _ hk)
    simp only [nx9] at e
    cases hs : sl o with
    | none => rw [hs] at e; cases e; exact go
    | some w =>
      rw [hs] at e
      simp only at e
      split at e
      · cases e; exact go
      · cases e
  | l29 a =>
    simp only [nx9] at e
    split at e <;> cases e
theorem nx9_tot : ((nx9 t i E sl s mc).s.spare ++ (nx9 t i E sl s mc).s.out ++ (nx9 t i E sl s mc).s.del.flatMap (·.2)).Perm (s.spare ++ s.out ++ s.del.flatMap (·.2)) := by
  cases mc <;> simp only [nx9] <;> (repeat' split) <;> first | exact List.Perm.refl _ | exact rel_perm9 | exact stamp_perm9
noncomputable def runA (mv sv tv : Val) (o3 o4 : Option Val) (K : Nat) (ks : List Nat) (o6 : Option Val) (G : Store) : SR := forIt (.nm 6) b__law_alone_l1 (ks.map fun (k : Nat) => Val.int (k : Int)) [some mv, some sv, some tv, o3, o4, some (.obj K), o6] G
theorem runA_true {ks : List Nat} {vs0 : List Val} (h0 : G[K]? = some (.ins 3 vs0)) (e : m_Stack_step [.obj K, mv, tv] G = .ok (.bl true) G1) : runA mv sv tv o3 o4 K (k :: ks) o6 G = runA mv sv tv o3 o4 K ks (some (.int (k : Int))) G1 := by
  unfold runA
  have eb : b__law_alone_l1 [some mv, some sv, some tv, o3, o4, some (.obj K), some (.int (k : Int))] G = .next [some mv, some sv, some tv, o3, o4, some (.obj K), some (.int (k : Int))] G1 := by
    unfold b__law_alone_l1
    simp [methV_1 h0, e]
  rw [List.map_cons, v_forCons]
  simp only [pt_nm, List.set_cons_succ, List.set_cons_zero]
  rw [eb]
theorem runA_false {ks : List Nat} {vs0 : List Val} (h0 : G[K]? = some (.ins 3 vs0)) (e : m_Stack_step [.obj K, mv, tv] G = .ok (.bl false) G1) : runA mv sv tv o3 o4 K (k :: ks) o6 G = .next [some mv, some sv, some tv, o3, o4, some (.obj K), some (.int (k : Int))] G1 := by
  unfold runA
  have eb : b__law_alone_l1 [some mv, some sv, some tv, o3, o4, some (.obj K), some (.int (k : Int))] G = .brk [some mv, some sv, some tv, o3, o4, some (.obj K), some (.int (k : Int))] G1 := by
    unfold b__law_alone_l1
    simp [methV_1 h0, e]
  rw [List.map_cons, v_forCons]
  simp only [pt_nm, List.set_cons_succ, List.set_cons_zero]
  rw [eb]
theorem run_ex9 : ∀ (n N : Nat) (x : Mx) (m : Me) (G : Store) (D : Nat) (E : Int) (sl : Nat → Option Int) (s : Sto) (mc : Mc9) (ks : List Nat) (o6 : Option Val) (r : Int × (Nat → Option Int) × Sto × Val), ex9 t i n E sl s mc = some r → W9 N t x m (stkP K ML S (mc.ob t i S0) ++ stoP S0 D s ++ R) G → Ab9 t m E sl → mc.ok t → s.th = i → s.L = x.L → x.M = M → i < t → N + n < 80000 → s.del.length + n < 90000 → (s.spare ++ s.out ++ s.del.flatMap (·.2)).length ≤ 100000 → n < ks.length →
    ∃ x' m' G' D' p6, runA (.obj M) sv (.int (i : Int)) o3 o4 K ks o6 G = .next [some (.obj M), some sv, some (.int (i : Int)), o3, o4, some (.obj K), p6] G' ∧ W9 (N + n) t x' m' ([(K, .ins 3 [.obj ML, r.2.2.2]), (ML, .lst [])] ++ stoP S0 D' r.2.2.1 ++ R) G' ∧ Ab9 t m' r.1 r.2.1 ∧ x'.M = x.M ∧ x'.L = x.L
  | 0, _, _, _, _, _, _, _, _, _, _, _, _, e, _, _, _, _, _, _, _, _, _, _, _ => by cases e
  | n + 1, N, x, m, G, D, E, sl, s, mc, ks, o6, r, e, w, ab, ok, hth, hL, hM, hi, hN, hd, ht, hk => by
    obtain ⟨k1, k2, ks, rfl⟩ : ∃ k1 k2 l, ks = k1 :: k2 :: l := by
      match ks, hk with
      | a :: b :: l, _ => exact ⟨a, b, l, rfl⟩
    have ht' := ht
    rw [List.length_append, List.length_append] at ht'
    obtain ⟨x1, m1, G1, D1, w1, ab1, es, M1, L1, _, _⟩ := step9 mc w ab ok hth hL hi (by omega) (by omega) (by rw [totD_flat]; omega)
    rw [hM] at es
    have tl : ((nx9 t i E sl s mc).s.spare ++ (nx9 t i E sl s mc).s.out ++ (nx9 t i E sl s mc).s.del.flatMap (·.2)).length ≤ 100000 := by
      rw [nx9_tot.length_eq]
      exact ht
    have dl := nx9_del (t := t) (i := i) (E := E) (sl := sl) (s := s) (mc := mc)
    cases hm : (nx9 t i E sl s mc).mc with
    | none =>
      have er : r = ((nx9 t i E sl s mc).E, (nx9 t i E sl s mc).sl, (nx9 t i E sl s mc).s, (nx9 t i E sl s mc).res) := by
        have e' : (match (nx9 t i E sl s mc).mc with
          | none => some ((nx9 t i E sl s mc).E, (nx9 t i E sl s mc).sl, (nx9 t i E sl s mc).s, (nx9 t i E sl s mc).res)
          | some mc' => ex9 t i n (nx9 t i E sl s mc).E (nx9 t i E sl s mc).sl (nx9 t i E sl s mc).s mc') = some r := e
        rw [hm] at e'
        exact (Option.some.inj e').symm
      rw [hm] at w1
      subst er
      have sk : StkAt G1 K ML [] (nx9 t i E sl s mc).res := ⟨w1.at_ (K, _) (by simp), w1.at_ (ML, _) (by simp)⟩
      have ef : m_Stack_step [.obj K, .obj M, .int (i : Int)] G1 = .ok (.bl false) G1 := step_none sk sk.1 (settle_none sk)
      refine ⟨x1, m1, G1, D1, some (.int (k2 : Int)), ?_, w1.mono (by omega), ab1, M1, L1⟩
      rw [runA_true w.stk.1 es, runA_false sk.1 ef]
    | some mc' =>
      have e2 : ex9 t i n (nx9 t i E sl s mc).E (nx9 t i E sl s mc).sl (nx9 t i E sl s mc).s mc' = some r := by
        have e' : (match (nx9 t i E sl s mc).mc with
          | none => some ((nx9 t i E sl s mc).E, (nx9 t i E sl s mc).sl, (nx9 t i E sl s mc).s, (nx9 t i E sl s mc).res)
          | some mc' => ex9 t i n (nx9 t i E sl s mc).E (nx9 t i E sl s mc).sl (nx9 t i E sl s mc).s mc') = some r := e
        rw [hm] at e'
        exact e'
      rw [hm] at w1
      obtain ⟨x2, m2, G2, D2, p6, a1, a2, a3, a4, a5⟩ := run_ex9 n (N + 1) x1 m1 G1 D1 _ _ _ mc' (k2 :: ks) (some (.int (k1 : Int))) r e2 w1 ab1 (nx9_ok ok hm) (by rw [nx9_th.1]; exact hth) (by rw [nx9_th.2, hL, L1]) (M1.trans hM) hi (by omega) (by omega) tl (by simp at hk ⊢; omega)
      refine ⟨x2, m2, G2, D2, p6, ?_, a2.mono (by omega), a3, a4.trans M1, a5.trans L1⟩
      rw [runA_true w.stk.1 es, a1]
theorem ex_enter : ex9 t i 3 E sl s .e2 = some (E, upd sl i (some E), s, .int E) := by
  simp [ex9, nx9]
theorem ex_scan : ∀ {os : List Nat}, (∀ o ∈ os, sl o = none) → ex9 t i (os.length + 1) E sl s (scan9 E os) = some (E + 1, sl, s.release (E + 1), .non)
  | [], _ => by simp [ex9, nx9, scan9]
  | o :: os, h => by
    have ho := h o (List.mem_cons_self ..)
    have ih := ex_scan (os := os) fun q hq => h q (List.mem_cons_of_mem _ hq)
    show ex9 t i (os.length + 1 + 1) E sl s (.l31 E o os) = _
    have en : nx9 t i E sl s (.l31 E o os) = ⟨E, sl, s, some (scan9 E os), .non⟩ := by
      simp only [nx9, ho]
    rw [ex9.eq_def]
    simp only [en]
    exact ih
theorem ex_leave (h : ∀ o, o < t → o ≠ i → sl o = none) : ex9 t i (if s.del = [] then 1 else (othN t i).length + 3) E sl s .l28 = some (if s.del = [] then (E, upd sl i none, s, .non) else (E + 1, upd sl i none, s.release (E + 1), .non)) := by
  by_cases hd : s.del = []
  · rw [if_pos hd, if_pos hd]
    simp [ex9, nx9, hd]
  · rw [if_neg hd, if_neg hd]
    have sc := ex_scan (t := t) (i := i) (E := E) (s := s) (sl := upd sl i none) (os := othN t i) fun o ho => by
      have h1 := othN_lt o ho
      have h2 := of_decide_eq_true (List.mem_filter.mp ho).2
      exact (if_neg h2).trans (h o h1 h2)
    show ex9 t i ((othN t i).length + 1 + 1 + 1) E sl s .l28 = _
    have e1 : nx9 t i E sl s .l28 = ⟨E, upd sl i none, s, some .l32, .non⟩ := by simp only [nx9, if_neg hd]
    have e2 : nx9 t i E (upd sl i none) s .l32 = ⟨E, upd sl i none, s, some (scan9 E (othN t i)), .non⟩ := rfl
    rw [ex9.eq_def]
    simp only [e1]
    rw [ex9.eq_def]
    simp only [e2]
    exact sc
theorem othN_len : (othN t i).length ≤ t := by
  have := List.length_filter_le (fun k => decide (k ≠ i)) (List.range' 0 t)
  rw [List.length_range'] at this
  exact this
/-- one machine, made and run -/
theorem mach9 {r : Int × (Nat → Option Int) × Sto × Val} (w : W9 N t x m ((S, mc.ob t i S0) :: (stoP S0 D s ++ R)) G) (e : ex9 t i n E sl s mc = some r) (ab : Ab9 t m E sl) (ok : mc.ok t) (hth : s.th = i) (hL : s.L = x.L) (hM : x.M = M) (hi : i < t) (hN : N + n < 80000) (hd : s.del.length + n < 90000) (ht : (s.spare ++ s.out ++ s.del.flatMap (·.2)).length ≤ 100000) (hn : n < 30) {o5 o6 : Option Val} :
    ∃ x' m' G' D' p5 p6, b__law_alone_l2 [some (.obj M), some sv, some (.int (i : Int)), o3, some (.obj S), o5, o6] G = .next [some (.obj M), some sv, some (.int (i : Int)), o3, some (.obj S), p5, p6] G' ∧ W9 (N + n) t x' m' (stoP S0 D' r.2.2.1 ++ R) G' ∧ Ab9 t m' r.1 r.2.1 ∧ x'.M = x.M ∧ x'.L = x.L := by
  have w1 := (w.push (.ins 3 [.obj (G.length + 1), .non])).push (.lst [.obj S])
  simp only [List.length_append, List.length_singleton, List.append_assoc, List.cons_append, List.nil_append] at w1
  have w2 : W9 N t x m (stkP G.length (G.length + 1) S (mc.ob t i S0) ++ stoP S0 D s ++ R) (G ++ [.ins 3 [.obj (G.length + 1), .non], .lst [.obj S]]) := w1.perm (List.Perm.swap _ _ _)
  obtain ⟨x', m', G', D', p6, a1, a2, a3, a4, a5⟩ := run_ex9 (sv := sv) (o3 := o3) (o4 := some (.obj S)) n N x m _ D E sl s mc (List.range' 0 30) o6 r e w2 ab ok hth hL hM hi hN hd ht (by simpa using hn)
  have sk : StkAt G' G.length (G.length + 1) [] r.2.2.2 := ⟨a2.at_ (G.length, _) (by simp), a2.at_ (G.length + 1, _) (by simp)⟩
  refine ⟨x', m', G', D', some (.obj G.length), p6, ?_, W9.drop (F := [(G.length, .ins 3 [.obj (G.length + 1), r.2.2.2]), (G.length + 1, .lst [])]) (by simpa only [List.append_assoc] using a2), a3, a4, a5⟩
  have si := stk_init (G := G) (v := .obj S)
  have mk : eMake 3 m_Stack_init [] (aCons (eVar 4) aNil) [some (.obj M), some sv, some (.int (i : Int)), o3, some (.obj S), o5, o6] G = .ok (.obj G.length) (G ++ [.ins 3 [.obj (G.length + 1), .non], .lst [.obj S]]) := by
    simp [si]
  have rg : rng1 [.int 30] = some ((List.range' 0 30).map fun (k : Nat) => Val.int (k : Int)) := rng1_nat (n := 30) (by decide)
  have en := stk_ended sk
  unfold b__law_alone_l2
  rw [v_seq, v_set, mk, toS_ok, then_next, v_seq, v_forR]
  have ev : aCons (eC (.int 30)) aNil ([some (.obj M), some sv, some (.int (i : Int)), o3, some (.obj S), o5, o6].set 5 (some (.obj G.length))) (G ++ [.ins 3 [.obj (G.length + 1), .non], .lst [.obj S]]) = .ok [.int 30] (G ++ [.ins 3 [.obj (G.length + 1), .non], .lst [.obj S]]) := rfl
  rw [ev, toS_ok, rg]
  have a1' : forIt (.nm 6) b__law_alone_l1 ((List.range' 0 30).map fun (k : Nat) => Val.int (k : Int)) ([some (.obj M), some sv, some (.int (i : Int)), o3, some (.obj S), o5, o6].set 5 (some (.obj G.length))) (G ++ [.ins 3 [.obj (G.length + 1), .non], .lst [.obj S]]) = _ := a1
  simp only
  rw [a1', then_next]
  simp [methV_1 sk.1, en]
/-- entering and leaving, alone -/
theorem alone_turn (w : W9 N t x m (stoP S0 D s ++ R) G) (ab : Ab9 t m E sl) (hs : ∀ j, j < t → sl j = none) (ho : s.out = []) (hth : s.th = i) (hL : s.L = x.L) (hM : x.M = M) (hi : i < t) (ht3 : t ≤ 3) (hN : N < 70000) (hd : s.del.length < 80000) (ht : (s.spare ++ s.out ++ s.del.flatMap (·.2)).length ≤ 100000) {o5 o6 : Option Val} :
    ∃ x' m' G' D' p4 p5 p6, b__law_alone_l3 [some (.obj M), some (.obj S0), some (.int (i : Int)), o3, o4, o5, o6] G = .next [some (.obj M), some (.obj S0), some (.int (i : Int)), o3, p4, p5, p6] G' ∧ W9 (N + 9) t x' m' (stoP S0 D' (if s.del = [] then s else s.release (E + 1)) ++ R) G' ∧ Ab9 t m' (if s.del = [] then E else E + 1) sl ∧ x'.M = x.M ∧ x'.L = x.L := by
  have h0 : StoAt G S0 D s := stoOf9 (Q1 := []) (Q2 := R) w
  have e1 := en_init h0 (w.layS hL)
  have w1 := w.push (enOb (1 + s.th) 2 .non)
  have h1 : StoAt (G ++ [enOb (1 + s.th) 2 .non]) S0 D s := h0.app
  have e2 := lv_init h1 (w1.layS hL) (by omega)
  rw [if_pos ho] at e2
  have w2 := w1.push (lvOb S0 .non (othersOf t s.th) 28)
  have eob : lvOb S0 .non (othersOf t s.th) 28 = Mc9.l28.ob t i S0 := by
    show _ = lvOb S0 .non (nI (othN t i)) 28
    rw [othN_of, hth]
  have eoe : enOb (1 + s.th) 2 .non = Mc9.e2.ob t i S0 := by rw [hth]; rfl
  simp only [List.length_append, List.length_singleton, List.append_assoc, List.cons_append, List.nil_append] at w2 e2
  rw [eob, eoe] at w2 e2
  rw [eoe] at e1
  have w3 : W9 N t x m ((G.length, Mc9.e2.ob t i S0) :: (stoP S0 D s ++ ((G.length + 1, Mc9.l28.ob t i S0) :: R))) (G ++ [Mc9.e2.ob t i S0, Mc9.l28.ob t i S0]) := w2.perm ((List.Perm.swap _ _ _).trans (List.Perm.cons _ (List.perm_middle (l₁ := stoP S0 D s) (l₂ := R) (a := (G.length + 1, Mc9.l28.ob t i S0))).symm))
  obtain ⟨x1, m1, G1, D1, p5, p6, a1, a2, a3, a4, a5⟩ := mach9 (sv := .obj S0) (o3 := o3) (o5 := o5) (o6 := o6) w3 ex_enter ab trivial hth hL hM hi (by omega) (by omega) ht (by omega)
  have w4 : W9 (N + 3) t x1 m1 ((G.length + 1, Mc9.l28.ob t i S0) :: (stoP S0 D1 s ++ R)) G1 := a2.perm List.perm_middle
  have on := othN_len (t := t) (i := i)
  have lv := ex_leave (t := t) (i := i) (E := E) (s := s) (sl := upd sl i (some E)) fun o h1 h2 => (if_neg h2).trans (hs o h1)
  have n6 : (if s.del = [] then 1 else (othN t i).length + 3) ≤ 6 := by split <;> omega
  obtain ⟨x2, m2, G2, D2, q5, q6, b1, b2, b3, b4, b5⟩ := mach9 (sv := .obj S0) (o3 := o3) (o5 := p5) (o6 := p6) w4 lv a3 trivial hth (hL.trans a5.symm) (a4.trans hM) hi (by omega) (by omega) ht (by omega)
  have cg : ∀ {E' : Int}, Ab9 t m2 E' (upd (upd sl i (some E)) i none) → Ab9 t m2 E' sl := fun h => ⟨h.ep, fun j hj => by
    rw [h.sl j hj, hs j hj]
    unfold upd
    by_cases hji : j = i
    · rw [if_pos hji]
    · rw [if_neg hji, if_neg hji, hs j hj]⟩
  refine ⟨x2, m2, G2, D2, some (.obj (G.length + 1)), q5, q6, ?_, ?_, ?_, b4.trans a4, b5.trans a5⟩
  · unfold b__law_alone_l3
    rw [v_forA]
    have ev : eLst true (aCons (eMake 6 m_Entering_init [] (aCons (eVar 1) aNil)) (aCons (eMake 7 m_Leaving_init [] (aCons (eVar 1) aNil)) aNil)) [some (.obj M), some (.obj S0), some (.int (i : Int)), o3, o4, o5, o6] G = .ok (.fro [.obj G.length, .obj (G.length + 1)]) (G ++ [Mc9.e2.ob t i S0, Mc9.l28.ob t i S0]) := by
      simp [e1, e2]
    rw [ev, toS_ok]
    simp only
    rw [v_forCons]
    simp only [pt_nm, List.set_cons_succ, List.set_cons_zero]
    rw [a1]
    simp only
    rw [v_forCons]
    simp only [pt_nm, List.set_cons_succ, List.set_cons_zero]
    rw [b1]
    rfl
  · refine W9.mono (N := N + 3 + (if s.del = [] then 1 else (othN t i).length + 3)) ?_ (by omega)
    by_cases h : s.del = []
    · simp only [if_pos h] at b2 ⊢
      exact b2
    · simp only [if_neg h] at b2 ⊢
      exact b2
  · by_cases h : s.del = []
    · simp only [if_pos h] at b3 ⊢
      exact cg b3
    · simp only [if_neg h] at b3 ⊢
      exact cg b3
theorem s_alone (w : W9 N t x m (stoP S0 D s ++ R) G) (ab : Ab9 t m E sl) (hs : ∀ j, j < t → sl j = none) (ho : s.out = []) (hth : s.th = i) (hL : s.L = x.L) (hM : x.M = M) (hi : i < t) (ht3 : t ≤ 3) (hN : N < 60000) (hd : s.del.length < 70000) (ht : (s.spare ++ s.out ++ s.del.flatMap (·.2)).length ≤ 100000) (hE : ∀ q ∈ s.del, q.1 ≤ E) :
    ∃ x' m' G' D' s' E', m__law_alone [.obj M, .obj S0, .int (i : Int)] G = .ok (.bl true) G' ∧ W9 (N + 36) t x' m' (stoP S0 D' s' ++ R) G' ∧ Ab9 t m' E' sl ∧ x'.M = x.M ∧ x'.L = x.L ∧ E ≤ E' ∧ s'.L = s.L ∧ s'.th = s.th := by
  have loop : ∀ (n j N : Nat) (x : Mx) (m : Me) (G : Store) (D : Nat) (s : Sto) (E1 : Int) (o3 o4 o5 o6 : Option Val), n + j = 4 → W9 N t x m (stoP S0 D s ++ R) G → Ab9 t m E1 sl → s.out = [] → s.th = i → s.L = x.L → x.M = M → N + 9 * n < 70000 → s.del.length < 70000 → (s.spare ++ s.out ++ s.del.flatMap (·.2)).length ≤ 100000 → E ≤ E1 → (s.del = [] ∨ (E1 = E + j ∧ ∀ q ∈ s.del, q.1 ≤ E)) → (n = 0 → s.del = []) →
      ∃ x' m' G' D' s' E' p3 p4 p5 p6, forIt (.nm 3) b__law_alone_l3 ((List.range' j n).map fun (k : Nat) => Val.int (k : Int)) [some (.obj M), some (.obj S0), some (.int (i : Int)), o3, o4, o5, o6] G = .next [some (.obj M), some (.obj S0), some (.int (i : Int)), p3, p4, p5, p6] G' ∧ W9 (N + 9 * n) t x' m' (stoP S0 D' s' ++ R) G' ∧ Ab9 t m' E' sl ∧ x'.M = x.M ∧ x'.L = x.L ∧ E ≤ E' ∧ s'.L = s.L ∧ s'.th = s.th ∧ s'.out = [] ∧ s'.del = [] := by
    intro n
    induction n with
    | zero =>
      intro j N x m G D s E1 o3 o4 o5 o6 _ w ab ho hth hL hM _ _ _ hE1 _ h0
      exact ⟨x, m, G, D, s, E1, o3, o4, o5, o6, rfl, w, ab, rfl, rfl, hE1, rfl, rfl, ho, h0 rfl⟩
    | succ n ih =>
      intro j N x m G D s E1 o3 o4 o5 o6 hj w ab ho hth hL hM hN hd ht hE1 hdel _
      obtain ⟨x1, m1, G1, D1, p4, p5, p6, a1, a2, a3, a4, a5⟩ := alone_turn (o3 := some (.int (j : Int))) (o4 := o4) (o5 := o5) (o6 := o6) w ab hs ho hth hL hM hi ht3 (by omega) (by omega) ht
      obtain ⟨s1, hs1⟩ : ∃ s1, s1 = if s.del = [] then s else s.release (E1 + 1) := ⟨_, rfl⟩
      rw [← hs1] at a2
      have f1 : s1.out = [] ∧ s1.th = s.th ∧ s1.L = s.L ∧ s1.del.length ≤ s.del.length ∧ (s1.spare ++ s1.out ++ s1.del.flatMap (·.2)).length = (s.spare ++ s.out ++ s.del.flatMap (·.2)).length := by
        rw [hs1]
        split
        · exact ⟨ho, rfl, rfl, Nat.le_refl _, rfl⟩
        · exact ⟨rel_L9.2.2.trans ho, rel_L9.2.1, rel_L9.1, by rw [rel_de]; exact List.length_filter_le _ _, rel_perm9.length_eq⟩
      have f2 : s1.del = [] ∨ ((if s.del = [] then E1 else E1 + 1) = E + (j + 1 : Nat) ∧ ∀ q ∈ s1.del, q.1 ≤ E) := by
        rw [hs1]
        rcases hdel with h | ⟨h1, h2⟩
        · rw [if_pos h]; exact .inl h
        · by_cases h : s.del = []
          · rw [if_pos h]; exact .inl h
          · rw [if_neg h, if_neg h]
            refine .inr ⟨by omega, fun q hq => ?_⟩
            rw [rel_de] at hq
            exact h2 q (List.mem_filter.mp hq).1
      have f3 : n = 0 → s1.del = [] := fun hn => by
        rw [hs1]
        rcases hdel with h | ⟨h1, h2⟩
        · rw [if_pos h]; exact h
        · split
          · assumption
          · rw [rel_de]
            refine List.filter_eq_nil_iff.mpr fun q hq z => ?_
            have z := of_decide_eq_true z
            have := h2 q hq
            omega
      obtain ⟨x2, m2, G2, D2, s2, E2, q3, q4, q5, q6, b1, b2, b3, b4, b5, b6, b7, b8, b9, b10⟩ := ih (j + 1) (N + 9) x1 m1 G1 D1 s1 _ (some (.int (j : Int))) p4 p5 p6 (by omega) a2 a3 f1.1 (f1.2.1.trans hth) (by rw [f1.2.2.1, hL, a5]) (a4.trans hM) (by omega) (by omega) (by rw [f1.2.2.2.2]; exact ht) (by split <;> omega) f2 f3
      refine ⟨x2, m2, G2, D2, s2, E2, q3, q4, q5, q6, ?_, b2.mono (by omega), b3, b4.trans a4, b5.trans a5, b6, b7.trans f1.2.2.1, b8.trans f1.2.1, b9, b10⟩
      rw [List.range'_succ, List.map_cons, v_forCons]
      simp only [pt_nm, List.set_cons_succ, List.set_cons_zero]
      rw [a1]
      exact b1
  obtain ⟨x', m', G', D', s', E', p3, p4, p5, p6, a1, a2, a3, a4, a5, a6, a7, a8, a9, a10⟩ := loop 4 0 N x m G D s E none none none none rfl w ab ho hth hL hM (by omega) (by omega) ht (Int.le_refl _) (.inr ⟨by simp, hE⟩) (fun z => by cases z)
  refine ⟨x', m', G', D', s', E', ?_, a2, a3, a4, a5, a6, a7, a8⟩
  have h1 : StoAt G' S0 D' s' := stoOf9 (Q1 := []) (Q2 := R) a2
  have wt := st_waiting h1 (by rw [a10]; simp)
  have we : waitV s' = [] := by unfold waitV; rw [a10, a9]; rfl
  rw [we] at wt
  have rg : rng1 [.int 4] = some ((List.range' 0 4).map fun (k : Nat) => Val.int (k : Int)) := rng1_nat (n := 4) (by decide)
  have ee : fEqA (.fro []) (.fro []) G' = .ok (.bl true) G' := fEqA_self rfl
  unfold m__law_alone b__law_alone
  rw [run_eq (by rfl), v_seq, v_forR]
  simp only [e_aCons, e_c, e_aNil, bind_ok, toS_ok, rg, List.map_cons, List.map_nil, List.cons_append, List.nil_append, List.replicate]
  have a1' : forIt (.nm 3) b__law_alone_l3 ((List.range' 0 4).map fun (k : Nat) => Val.int (k : Int)) [some (.obj M), some (.obj S0), some (.int (i : Int)), none, none, none, none] G = _ := a1
  rw [a1', then_next]
  simp [methV_1 h1.ins, wt, ee]
end
/-! ### law k09: the law's statements (printed by gen2/seqs.py) -/
noncomputable def tl0 : SM := (sSet 1 (eCallF m__law_tape [] (aCons (eVar 0) aNil)))
noncomputable def tl1 : SM := (sSet 2 (eOp (fAdd true) (eC (.int 2)) (eOp fMod (eCallF m__law_at [] (aCons (eVar 1) (aCons (eC (.int 0)) aNil))) (eC (.int 2)))))
noncomputable def tl2 : SM := (sSet 3 (eMake 1 m_Memory_init [] (aCons (eMake 0 m_Layout_init [] (aCons (eVar 2) (aCons (eC (.int 3)) (aCons (eOp (fAdd true) (eC (.int 3)) (eOp (fMul true) (eC (.int 12)) (eVar 2))) aNil)))) aNil)))
noncomputable def tl3 : SM := (sSet 4 (eLcFR true rng1 (aCons (eVar 2) aNil) (.nm 14) tTrue (eCallF m__law_store [] (aCons (eFld (eVar 3) [(5, 0), (1, 0)]) (aCons (eVar 14) aNil))) [14]))
noncomputable def tl4 : SM := (sSet 5 (eLcF true (eVar 4) (.nm 16) tTrue (eMeth [(5, m_Store_free_cells)] [] (eVar 16) aNil) [16]))
noncomputable def tl5 : SM := (sSet 6 (eOp (fMul false) (eLst true (aCons (eC .non) aNil)) (eVar 2)))
noncomputable def tl6 : SM := (sSet 7 (eOp (fMul false) (eLst true (aCons (eC (.str 33)) aNil)) (eVar 2)))
noncomputable def tl7 : SM := (sSet 8 (eOp (fMul false) (eLst true (aCons (eC (.int 0)) aNil)) (eVar 2)))
noncomputable def tl8 : SM := (sSet 9 (eOp (fMul false) (eLst true (aCons (eC .non) aNil)) (eVar 2)))
noncomputable def tl9 : SM := (sSet 10 (eLst true aNil))
noncomputable def tl10 : SM := (sSet 11 (eC (.int 0)))
noncomputable def tl11 : SM := (sSet 12 (eLcFR false rng1 (aCons (eVar 2) aNil) (.nm 14) tTrue (eLst true aNil) [14]))
noncomputable def tl12 : SM := (sForR rng1 (aCons (eCall bMin (aCons (eC (.int 200)) (aCons (eCall bMax (aCons (eC (.int 0)) (aCons (eOp fSub (eCall bLen (aCons (eVar 1) aNil)) (eC (.int 2))) aNil))) aNil))) aNil) (.nm 13) b_law_l3)
noncomputable def tl13 : SM := (sForR rng1 (aCons (eVar 2) aNil) (.nm 14) b_law_l1)
noncomputable def tl14 : SM := (sRet (eC (.bl true)))
theorem tl_eq : b_law = sSeq tl0 (sSeq tl1 (sSeq tl2 (sSeq tl3 (sSeq tl4 (sSeq tl5 (sSeq tl6 (sSeq tl7 (sSeq tl8 (sSeq tl9 (sSeq tl10 (sSeq tl11 (sSeq tl12 (sSeq tl13 tl14))))))))))))) := rfl
/-! ### law k09: the threads alone, one behind the other -/
section
variable {x x1 : Mx} {m m1 : Me} {G G1 : Store} {N t th c j i M L k n S0 D K ML S ph kk b : Nat} {F F' R P P' Q : List (Nat × Ob)} {o o' : Ob} {v sc : Val} {E nu : Int} {sl : Nat → Option Int} {l6 l7 l8 l9 l12 st fr : List Val} {act : Cs} {ser : Int} {wk tp : List Int} {shl : List (Option Int)} {fs : List (List Int)} {Ts : List Th9} {T T' : Th9} {A : A9} {s s' : Sto} {first : List Int} {r : Rw9} {o13 o14 o15 o16 o17 o18 o19 o20 o21 o22 o23 o24 o25 : Option Val}
structure N9 (N t M L : Nat) (A : A9) (x : Mx) (m : Me) (G : Store) (E : Int) (sl : Nat → Option Int) (wk : List Int) (shl : List (Option Int)) (Ts : List Th9) (j : Nat) : Prop where
  w : W9 N t x m (pp9 A t wk shl Ts) G
  ab : Ab9 t m E sl
  lT : Ts.length = t
  ti : ∀ i T, j ≤ i → Ts[i]? = some T → T.s.th = i ∧ T.s.L = L ∧ (∀ q ∈ T.s.del, q.1 ≤ E) ∧ (T.ph = 33 → T.s.out = [] ∧ sl i = none) ∧ T.s.del.length ≤ 1000 ∧ (T.s.spare ++ T.s.out ++ T.s.del.flatMap (·.2)).length ≤ 100000
  hM : x.M = M
  xL : x.L = L
theorem oth9 (w : W9 N t x m P G) (hM : x.M = M) (ab : Ab9 t m E sl) (ht3 : t ≤ 3) : eLcFR true rng1 (aCons (eVar 2) aNil) (.nm 13) (tAnd1 (eTest (eOp fNeA (eVar 13) (eVar 14))) (eTest (eOp fIsNot (eMeth [(1, m_Memory_peek)] [] (eVar 3) (aCons (eOp (fAdd true) (eC (.int 1)) (eVar 13)) aNil)) (eC .non)))) (eVar 13) [13] (e9 sc tp t M st fr A act ser o13 (some (.int (i : Int))) o15 o16 o17 o18 o19 o20 o21 o22 o23 o24 o25) G = .ok (.fro (((List.range' 0 t).filter fun k => decide (k ≠ i) && (sl k).isSome).map fun (k : Nat) => Val.int (k : Int))) G := by
  have hm := w.b.at_.mem
  rw [hM] at hm
  have lc := lcF_map (p := .nm 13) (tt := tAnd1 (eTest (eOp fNeA (eVar 13) (eVar 14))) (eTest (eOp fIsNot (eMeth [(1, m_Memory_peek)] [] (eVar 3) (aCons (eOp (fAdd true) (eC (.int 1)) (eVar 13)) aNil)) (eC .non)))) (te := eVar 13) (ρw := wipe1 (e9 sc tp t M st fr A act ser o13 (some (.int (i : Int))) o15 o16 o17 o18 o19 o20 o21 o22 o23 o24 o25) [13]) (G := G) (enc := fun (k : Nat) => Val.int (k : Int)) (f := fun k => decide (k ≠ i) && (sl k).isSome) (g := fun (k : Nat) => Val.int (k : Int)) (xs := List.range' 0 t) fun k hk => by
    have hkt : k < t := by obtain ⟨z, hz, e⟩ := List.mem_range'.mp hk; omega
    have pk := pk9 w hM ab hkt
    refine ⟨_, rfl, ?_, fun _ => by simp [wipe1, e9]⟩
    by_cases hki : k = i
    · subst hki
      simp [wipe1, e9]
    · have n1 : ¬ (k : Int) = (i : Int) := by omega
      have e3 : ∀ o : Option Int, isNon (optV o) = o.isNone := fun o => isNon_optV
      simp [wipe1, e9, n1, methV_1 hm, pk, e3, hki]
  unfold eLcFR
  have ev : aCons (eVar 2) aNil (e9 sc tp t M st fr A act ser o13 (some (.int (i : Int))) o15 o16 o17 o18 o19 o20 o21 o22 o23 o24 o25) G = .ok [.int (t : Int)] G := rfl
  rw [ev]
  simp only [bind_ok, rng1_nat (n := t) (by omega)]
  rw [if_pos (small_line (by simp; omega)), lc]
  rfl
theorem lone9 (h : N9 N t M L A x m G E sl wk shl Ts i) (hi : Ts[i]? = some T) (ht3 : t ≤ 3) (hN : N < 60000) (fx : Fx9 t st fr fs Ts) :
    ∃ x' m' G' E' Ts' p18, b_law_l1 (e9 sc tp t M st fr A act ser o13 (some (.int (i : Int))) o15 o16 o17 o18 o19 o20 o21 o22 o23 o24 o25) G = .next (e9 sc tp t M st fr A act ser o13 (some (.int (i : Int))) o15 o16 o17 p18 o19 o20 o21 o22 o23 o24 o25) G' ∧ N9 (N + 36) t M L A x' m' G' E' sl wk shl Ts' (i + 1) ∧ Fx9 t st fr fs Ts' := by
  obtain ⟨hlt, hTi⟩ := List.getElem?_eq_some_iff.mp hi
  have hit : i < t := by rw [← h.lT]; exact hlt
  have q7 : (Ts.map fun T => Val.str T.ph)[i]? = some (.str T.ph) := by rw [List.getElem?_map, hi]; rfl
  have q6 : (Ts.map Th9.skV)[i]? = some T.skV := by rw [List.getElem?_map, hi]; rfl
  have q12 : (Ts.map Th9.rwsV)[i]? = some T.rwsV := by rw [List.getElem?_map, hi]; rfl
  have ot := oth9 (sc := sc) (tp := tp) (st := st) (fr := fr) (A := A) (act := act) (ser := ser) (o13 := o13) (i := i) (o15 := o15) (o16 := o16) (o17 := o17) (o18 := o18) (o19 := o19) (o20 := o20) (o21 := o21) (o22 := o22) (o23 := o23) (o24 := o24) (o25 := o25) h.w h.hM h.ab ht3
  generalize hos : (List.range' 0 t).filter (fun k => decide (k ≠ i) && (sl k).isSome) = os at ot
  have g7 : G[A.a7]? = some (.lst (Ts.map fun T => .str T.ph)) := h.w.at_ (A.a7, _) (by simp [pp9, lw9])
  have s0 : sSet 18 (eLcFR true rng1 (aCons (eVar 2) aNil) (.nm 13) (tAnd1 (eTest (eOp fNeA (eVar 13) (eVar 14))) (eTest (eOp fIsNot (eMeth [(1, m_Memory_peek)] [] (eVar 3) (aCons (eOp (fAdd true) (eC (.int 1)) (eVar 13)) aNil)) (eC .non)))) (eVar 13) [13]) (e9 sc tp t M st fr A act ser o13 (some (.int (i : Int))) o15 o16 o17 o18 o19 o20 o21 o22 o23 o24 o25) G = .next (e9 sc tp t M st fr A act ser o13 (some (.int (i : Int))) o15 o16 o17 (some (.fro (os.map fun (k : Nat) => Val.int (k : Int)))) o19 o20 o21 o22 o23 o24 o25) G := by
    rw [v_set, ot, toS_ok]
    rfl
  have c18 : fEqA (.fro (os.map fun (k : Nat) => Val.int (k : Int))) (.fro []) G = .ok (.bl (decide (os = []))) G := by
    have p1 : pln dEq (.fro (os.map fun (k : Nat) => Val.int (k : Int))) = true := by
      have : os.map (fun (k : Nat) => Val.int (k : Int)) = (nI os).map Val.int := by unfold nI; rw [List.map_map]; rfl
      rw [this]
      exact pln_ints
    have p2 : decide (Val.fro (os.map fun (k : Nat) => Val.int (k : Int)) = Val.fro []) = decide (os = []) := by
      rw [decide_eq_decide]
      constructor
      · intro z
        have z := Val.fro.inj z
        exact List.map_eq_nil_iff.mp z
      · intro z; rw [z]; rfl
    rw [fEqA_pln p1 rfl, p2]
  have up : ∀ {E' : Int} {Ts' : List Th9}, E ≤ E' → (∀ j, i + 1 ≤ j → Ts'[j]? = Ts[j]?) → ∀ (j : Nat) (U : Th9), i + 1 ≤ j → Ts'[j]? = some U → U.s.th = j ∧ U.s.L = L ∧ (∀ q ∈ U.s.del, q.1 ≤ E') ∧ (U.ph = 33 → U.s.out = [] ∧ sl j = none) ∧ U.s.del.length ≤ 1000 ∧ (U.s.spare ++ U.s.out ++ U.s.del.flatMap (·.2)).length ≤ 100000 := fun hE hT j U hj hU => by
    obtain ⟨a, b, c, d, e, f⟩ := h.ti j U (by omega) (by rw [← hT j hj]; exact hU)
    exact ⟨a, b, fun q hq => Int.le_trans (c q hq) hE, d, e, f⟩
  by_cases ha : os = [] ∧ T.ph = 33
  · obtain ⟨ho, hp⟩ := ha
    obtain ⟨t1, t2, t3, t4, t5, t6⟩ := h.ti i T (Nat.le_refl _) hi
    obtain ⟨u1, u2⟩ := t4 hp
    have hs : ∀ j, j < t → sl j = none := fun j hj => by
      by_cases hji : j = i
      · rw [hji]; exact u2
      · rw [ho] at hos
        have := List.filter_eq_nil_iff.mp hos j (by rw [List.mem_range']; exact ⟨j, hj, by omega⟩)
        simp [hji] at this
        exact this
    obtain ⟨R, p1, p2⟩ := flat_focus (f := blk9 t) hi
    have w0 := h.w.perm (p1.append_left _)
    have w1 := w0.perm (Q := stoP T.S0 T.D T.s ++ (lw9 A (Ts.map Th9.skV) (Ts.map fun T => .str T.ph) (wk.map .int) (shl.map optV) (Ts.map Th9.rwsV) ++ (T.skP t ++ (T.rwsP ++ R)))) (by
      unfold blk9
      simp only [List.append_assoc]
      refine List.Perm.trans (List.Perm.append_left _ (List.perm_append_comm_assoc _ _ _)) ?_
      exact List.perm_append_comm_assoc _ _ _)
    obtain ⟨x', m', G', D', s', E', e, w2, ab2, M2, L2', hE, sL, sth⟩ := s_alone w1 h.ab hs u1 t1 (t2.trans h.xL.symm) h.hM hit ht3 (by omega) (by omega) t6 t3
    let T2 : Th9 := { T with s := s', D := D' }
    have ek : T2.skP t = T.skP t := by
      show (match T.sk with
        | some (mc, res) => Dk.skP T.K T.ML T.S t s'.th T.S0 mc res
        | none => []) = _
      rw [sth]
      rfl
    have w3 : W9 (N + 36) t x' m' (pp9 A t wk shl (Ts.set i T2)) G' := by
      unfold pp9
      rw [List.map_set, List.map_set, List.map_set]
      have a6 : (Ts.map Th9.skV).set i T2.skV = Ts.map Th9.skV := set_self q6
      have a7 : ((Ts.map fun T => Val.str T.ph).set i (.str T2.ph)) = Ts.map fun T => Val.str T.ph := set_self q7
      have a12 : (Ts.map Th9.rwsV).set i T2.rwsV = Ts.map Th9.rwsV := set_self q12
      rw [a6, a7, a12]
      refine w2.perm ?_
      refine List.Perm.trans ?_ ((p2 T2).symm.append_left _)
      have eb : blk9 t T2 = T.skP t ++ stoP T.S0 D' s' ++ T.rwsP := by
        unfold blk9
        rw [ek]
        rfl
      rw [eb]
      simp only [List.append_assoc]
      refine List.Perm.trans (List.perm_append_comm_assoc _ _ _) ?_
      exact List.Perm.append_left _ (List.perm_append_comm_assoc _ _ _)
    refine ⟨x', m', G', E', Ts.set i T2, some (.fro (os.map fun (k : Nat) => Val.int (k : Int))), ?_, ⟨w3, ab2, by rw [List.length_set]; exact h.lT, up hE fun j hj => List.getElem?_set_ne (by omega), M2.trans h.hM, L2'.trans h.xL⟩, fx.upd hi rfl⟩
    have i4 : fIx (.fro st) (.int (i : Int)) G = .ok (.obj T.S0) G := by
      rw [fx.st]
      exact fIx_at rfl (by rw [List.getElem?_map, hi]; rfl)
    unfold b_law_l1
    rw [v_seq, s0, then_next, v_if]
    have ec : tAnd1 (eTest (eOp fEqA (eVar 18) (eLst true aNil))) (eTest (eOp fEqA (eOp fIx (eVar 7) (eVar 14)) (eC (.str 33)))) (e9 sc tp t M st fr A act ser o13 (some (.int (i : Int))) o15 o16 o17 (some (.fro (os.map fun (k : Nat) => Val.int (k : Int)))) o19 o20 o21 o22 o23 o24 o25) G = .ok true G := by
      simp only [e_tand, e_test, e_op, e_var, e9, List.getElem?_cons_succ, List.getElem?_cons_zero, bind_ok, e_lst, e_aNil, List.length_nil, sz0, if_true, mkL_t, ho, List.map_nil, fEqA_self (v := .fro []) (d := .list []) rfl, ix7 g7 q7, e_c, hp, fEqA_ss, decide_true]
    rw [ec, toS_ok, if_pos rfl]
    simp only [v_if, e_tnot, e_truth, e_callF, e_aCons, e_op, e_var, e9, List.getElem?_cons_succ, List.getElem?_cons_zero, bind_ok, e_aNil, List.append_nil, i4, e, truth_bl, Bool.not_true, toS_ok, Bool.false_eq_true, if_false, v_pass]
  · refine ⟨x, m, G, E, Ts, some (.fro (os.map fun (k : Nat) => Val.int (k : Int))), ?_, ⟨h.w.mono (by omega), h.ab, h.lT, up (Int.le_refl _) fun _ _ => rfl, h.hM, h.xL⟩, fx⟩
    unfold b_law_l1
    rw [v_seq, s0, then_next, v_if]
    have ec : tAnd1 (eTest (eOp fEqA (eVar 18) (eLst true aNil))) (eTest (eOp fEqA (eOp fIx (eVar 7) (eVar 14)) (eC (.str 33)))) (e9 sc tp t M st fr A act ser o13 (some (.int (i : Int))) o15 o16 o17 (some (.fro (os.map fun (k : Nat) => Val.int (k : Int)))) o19 o20 o21 o22 o23 o24 o25) G = .ok false G := by
      by_cases ho : os = []
      · have hp : T.ph ≠ 33 := fun z => ha ⟨ho, z⟩
        simp only [e_tand, e_test, e_op, e_var, e9, List.getElem?_cons_succ, List.getElem?_cons_zero, bind_ok, e_lst, e_aNil, List.length_nil, sz0, if_true, mkL_t, ho, List.map_nil, fEqA_self (v := .fro []) (d := .list []) rfl, ix7 g7 q7, e_c, fEqA_ss, hp, decide_false]
      · simp only [e_tand, e_test, e_op, e_var, e9, List.getElem?_cons_succ, List.getElem?_cons_zero, bind_ok, e_lst, e_aNil, List.length_nil, sz0, if_true, mkL_t, c18, ho, decide_false, Bool.false_eq_true, if_false]
    rw [ec, toS_ok, if_neg (by decide), v_pass]
theorem lones9 (ht3 : t ≤ 3) (jn : Nat) : ∀ (j N : Nat) (x : Mx) (m : Me) (G : Store) (E : Int) (Ts : List Th9) (o14 o18 : Option Val), j + jn = t → N + 36 * jn < 60000 → N9 N t M L A x m G E sl wk shl Ts j → Fx9 t st fr fs Ts → ∃ ρ' G', forIt (.nm 14) b_law_l1 ((List.range' j jn).map fun (k : Nat) => Val.int (k : Int)) (e9 sc tp t M st fr A act ser o13 o14 o15 o16 o17 o18 o19 o20 o21 o22 o23 o24 o25) G = .next ρ' G' := by
  induction jn with
  | zero =>
    intro j N x m G E Ts o14 o18 _ _ _ _
    exact ⟨_, _, rfl⟩
  | succ jn ih =>
    intro j N x m G E Ts o14 o18 hj hN h fx
    have hjt : j < Ts.length := by rw [h.lT]; omega
    obtain ⟨x1, m1, G1, E1, Ts1, p18, e1, h1, fx1⟩ := lone9 (sc := sc) (tp := tp) (act := act) (ser := ser) (o13 := o13) (o15 := o15) (o16 := o16) (o17 := o17) (o18 := o18) (o19 := o19) (o20 := o20) (o21 := o21) (o22 := o22) (o23 := o23) (o24 := o24) (o25 := o25) h (List.getElem?_eq_getElem hjt) ht3 (by omega) fx
    obtain ⟨ρ', G', e2⟩ := ih (j + 1) (N + 36) x1 m1 G1 E1 Ts1 (some (.int (j : Int))) p18 (by omega) (by omega) h1 fx1
    refine ⟨ρ', G', ?_⟩
    rw [List.range'_succ, List.map_cons]
    have ep : ptSet G (.nm 14) (.int (j : Int)) (e9 sc tp t M st fr A act ser o13 o14 o15 o16 o17 o18 o19 o20 o21 o22 o23 o24 o25) = some (e9 sc tp t M st fr A act ser o13 (some (.int (j : Int))) o15 o16 o17 o18 o19 o20 o21 o22 o23 o24 o25) := rfl
    rw [for_step9 ep e1]
    exact e2
/-- the state behind the turns serves -/
theorem L9.last (h : L9 N t M L A x m G E sl act ser wk shl fs Ts) (hz : Z9 n b act Ts) (hn : n ≤ 400) : N9 N t M L A x m G E sl wk shl Ts 0 := ⟨h.w, h.ab, h.iv.lT, fun i T _ hi => by
  have hlt := (List.getElem?_eq_some_iff.mp hi).1
  have hlf : i < fs.length := by rw [h.iv.lF, ← h.iv.lT]; exact hlt
  have hTm := List.mem_of_getElem? hi
  obtain ⟨a, p, c, d⟩ := h.iv.ti i T _ hi (List.getElem?_eq_getElem hlf)
  have fl := h.f12 _ (List.getElem_mem hlf)
  refine ⟨a, h.hL T hTm, c, fun hp => ?_, by have := hz.del T hTm; omega, by rw [p.length_eq]; omega⟩
  rw [hp] at d
  cases d with
  | out33 _ u1 u2 _ => exact ⟨u2, u1⟩, h.hM, h.xL⟩
end
/-! ### law k09: the law -/
section
variable {x x1 : Mx} {m m1 : Me} {G G1 : Store} {N t th c j i M L k n S0 D K ML S ph kk b : Nat} {P P' Q : List (Nat × Ob)} {v sc : Val} {E : Int} {sl : Nat → Option Int} {Ts : List Th9} {T T' : Th9} {A : A9} {s s' : Sto}
theorem rng2_n9 {a b : Nat} (ha : a ≤ 1000000) (hb : b ≤ 1000000) : rng2 [.int (a : Int), .int (b : Int)] = some ((List.range' a (b - a)).map fun (k : Nat) => Val.int (k : Int)) := by
  unfold rng2
  have h1 : inLine (a : Int) = true := by
    unfold inLine
    simp
    omega
  have h2 : inLine (b : Int) = true := by
    unfold inLine
    simp
    omega
  simp only [h1, h2, Bool.and_self, if_true]
  unfold rangeL
  have e : ((b : Int) - (a : Int)).toNat = b - a := by omega
  rw [e]
  have : List.range' a (b - a) = (List.range (b - a)).map (a + ·) := by rw [List.range_eq_range', List.map_add_range']; simp
  rw [this, List.map_map]
  congr 1
def cells9 (t : Nat) : List Int := (List.range' 3 (12 * t)).map fun (k : Nat) => 1 + 2 * (t : Int) + 3 + (k : Int)
def own9 (t th : Nat) : List Int := sortI ((cells9 t).filter fun c => decide ((c - (1 + 2 * (t : Int) + 3 + 0)) % (t : Int) = (th : Int)))
theorem nodup_map9 {α β : Type} {f : α → β} (hf : ∀ a b, f a = f b → a = b) : ∀ {l : List α}, l.Nodup → (l.map f).Nodup
  | [], _ => List.nodup_nil
  | a :: l, h => by
    obtain ⟨h1, h2⟩ := List.nodup_cons.mp h
    rw [List.map_cons]
    refine List.nodup_cons.mpr ⟨fun z => ?_, nodup_map9 hf h2⟩
    obtain ⟨b, hb, e⟩ := List.mem_map.mp z
    exact h1 (hf _ _ e ▸ hb)
theorem own9_nd : (sortI (own9 t th)).Nodup ∧ (sortI (own9 t th)).Pairwise (· ≤ ·) ∧ (sortI (own9 t th)).length ≤ 12 * t := by
  have p : (sortI (own9 t th)).Perm ((cells9 t).filter fun c => decide ((c - (1 + 2 * (t : Int) + 3 + 0)) % (t : Int) = (th : Int))) := (sortI_perm _).trans (sortI_perm _)
  refine ⟨p.nodup_iff.mpr ((nodup_map9 (fun a b h => by omega) List.nodup_range').filter _), sortI_sorted _, ?_⟩
  rw [p.length_eq]
  refine Nat.le_trans (List.length_filter_le _ _) ?_
  simp [cells9]
theorem s_divided9 {cs : List Int} {r : Int} (hL : LayAt G L (t : Int) 3 r) (ht : 0 < t) (hl : cs.length ≤ 1000) : m_divided [.obj L, .fro (cs.map .int), .int (th : Int)] G = .ok (.fro ((sortI (cs.filter fun c => decide ((c - (1 + 2 * (t : Int) + 3 + 0)) % (t : Int) = (th : Int)))).map .int)) G := by
  unfold m_divided b_divided
  rw [runT_eq (by rfl)]
  have cp : ∀ ρ : Env1, ρ[0]? = some (some (.obj L)) → ρ[1]? = some (some (.fro (cs.map .int))) → ρ[2]? = some (some (.int (th : Int))) → ρ.length = 4 → eLcF true (eVar 1) (.nm 3) (eTest (eOp fEqA (eOp fMod (eOp fSub (eVar 3) (eMeth [(0, m_Layout_record)] [] (eVar 0) (aCons (eC (.int 0)) aNil))) (eFld (eVar 0) [(0, 0)])) (eVar 2))) (eVar 3) [3] ρ G = .ok (.fro ((cs.filter fun c => decide ((c - (1 + 2 * (t : Int) + 3 + 0)) % (t : Int) = (th : Int))).map .int)) G := fun ρ h0 h1 h2 hρ => by
    rw [eLcF_of (v := .fro (cs.map .int)) (l := cs.map .int) (f := fun v => match v with | .int c => decide ((c - (1 + 2 * (t : Int) + 3 + 0)) % (t : Int) = (th : Int)) | _ => false) (g := fun v => v)]
    · rw [mkL_t, List.map_id', List.filter_map]
      rfl
    · simp [h1]
    · exact .inr rfl
    · simp; omega
    · intro v hv
      obtain ⟨c, _, rfl⟩ := List.mem_map.mp hv
      have e0 : ((wipe1 ρ [3]).set 3 (some (.int c)))[0]? = some (some (.obj L)) := by rw [List.getElem?_set_ne (by decide)]; simp [wipe1, h0]
      have e2 : ((wipe1 ρ [3]).set 3 (some (.int c)))[2]? = some (some (.int (th : Int))) := by rw [List.getElem?_set_ne (by decide)]; simp [wipe1, h2]
      have e3 : ((wipe1 ρ [3]).set 3 (some (.int c)))[3]? = some (some (.int c)) := by rw [List.getElem?_set_self (by simp [wipe1]; omega)]
      refine ⟨_, rfl, ?_, fun _ => by simp [e3]⟩
      have md : ∀ a : Int, fMod (.int a) (.int (t : Int)) G = .ok (.int (a % (t : Int))) G := fun a => fMod_ii (by omega)
      have rc := s_record (i := 0) hL
      simp [e0, e2, e3, methV_1 hL, rc, lay_t hL, md]
  have so := fun ns => bSortX_ints (G := G) (v := .fro (ns.map .int)) (ns := ns) rfl
  have di := fun ns => dat_ints (cs := ns)
  simp [cp, so, trunc_d0, di, -dat_fro]
theorem s_store9 (hL : LayAt G L ((t : Nat) : Int) ((3 : Nat) : Int) ((3 + 12 * t : Nat) : Int)) (ht : 0 < t) (ht3 : t ≤ 3) : m__law_store [.obj L, .int (th : Int)] G = .ok (.obj G.length) (G ++ [stoOb ⟨L, th, sortI (own9 t th), [], []⟩ (G.length + 1), .lst []]) := by
  unfold m__law_store b__law_store
  rw [run_eq (by rfl)]
  have r3 : rng2 [.int 3, .int ((3 + 12 * t : Nat) : Int)] = some ((List.range' 3 (12 * t)).map fun (k : Nat) => Val.int (k : Int)) := by
    have := rng2_n9 (a := 3) (b := 3 + 12 * t) (by decide) (by omega)
    rw [Nat.add_sub_cancel_left] at this
    exact this
  have cp : ∀ ρ : Env1, ρ[0]? = some (some (.obj L)) → ρ.length = 4 → eLcFR true rng2 (aCons (eC (.int 3)) (aCons (eFld (eVar 0) [(0, 2)]) aNil)) (.nm 3) tTrue (eMeth [(0, m_Layout_record)] [] (eVar 0) (aCons (eVar 3) aNil)) [3] ρ G = .ok (.fro ((cells9 t).map .int)) G := fun ρ h0 hρ => by
    rw [eLcFR_of (vs := [.int 3, .int ((3 + 12 * t : Nat) : Int)]) (l := (List.range' 3 (12 * t)).map fun (k : Nat) => Val.int (k : Int)) (f := fun _ => true) (g := fun v => match v with | .int k => .int (1 + 2 * (t : Int) + 3 + k) | _ => .non)]
    · rw [List.filter_eq_self.mpr fun _ _ => rfl, List.map_map, mkL_t]
      unfold cells9
      rw [List.map_map]
      rfl
    · simp [h0, lay_r hL, -Int.natCast_add]
    · exact r3
    · simp; omega
    · intro v hv
      obtain ⟨k, hk, rfl⟩ := List.mem_map.mp hv
      have e0 : ((wipe1 ρ [3]).set 3 (some (.int (k : Int))))[0]? = some (some (.obj L)) := by rw [List.getElem?_set_ne (by decide)]; simp [wipe1, h0]
      have e3 : ((wipe1 ρ [3]).set 3 (some (.int (k : Int))))[3]? = some (some (.int (k : Int))) := by rw [List.getElem?_set_self (by simp [wipe1]; omega)]
      refine ⟨_, rfl, rfl, fun _ => ?_⟩
      have rc := s_record (i := (k : Int)) hL
      simp only [e_meth, e_var, e0, e3, bind_ok, methV_1 hL, e_aCons, e_aNil, List.append_nil, rc]
      rfl
  have dv := s_divided9 (th := th) (cs := cells9 t) hL ht (by simp [cells9]; omega)
  have si := st_init (G := G) (L := L) (th := th) (cs := own9 t th)
  have dv' : m_divided [.obj L, .fro ((cells9 t).map .int), .int (th : Int)] (G ++ []) = .ok (.fro ((own9 t th).map .int)) (G ++ []) := by rw [List.append_nil]; exact dv
  rw [List.append_nil] at dv'
  simp [cp, dv', si]
def new9 (S0 D L i t : Nat) : Th9 := ⟨S0, D, ⟨L, i, sortI (own9 t i), [], []⟩, 33, 0, 0, 0, none, []⟩
theorem lcF_step9 {p : Pt} {te : EM} {ρ ρ2 : Env1} {v w : Val} {r ws : List Val} {G G1 G2 : Store} (h1 : ptSet G p v ρ = some ρ2) (h2 : te ρ2 G = .ok w G1) (h3 : lcF p tTrue te ρ r G1 = .ok ws G2) : lcF p tTrue te ρ (v :: r) G = .ok (w :: ws) G2 := by
  unfold lcF lcFT
  simp only [h1, tTrue_ok, bind_ok, if_true, h2, h3]
theorem callF9 {f : F1} {k : AM} {ρ : Env1} {vs : List Val} {v : Val} (h1 : k ρ G = .ok vs G) (h2 : f vs G = .ok v G1) : eCallF f [] k ρ G = .ok v G1 := by
  rw [e_callF, h1, bind_ok, List.append_nil, h2]
theorem te9 {ρ : Env1} {f : F1} (e3 : ρ[3]? = some (some (.obj M))) (e14 : ρ[14]? = some (some (.int (j : Int)))) (ml : fldV [(5, 0), (1, 0)] (.obj M) G = .ok (.obj L) G) (es : f [.obj L, .int (j : Int)] G = .ok v G1) : eCallF f [] (aCons (eFld (eVar 3) [(5, 0), (1, 0)]) (aCons (eVar 14) aNil)) ρ G = .ok v G1 :=
  callF9 (vs := [.obj L, .int (j : Int)]) (by simp only [e_aCons, e_fld, e_var, e3, e14, bind_ok, ml, e_aNil]) es
theorem stores9 {ρ : Env1} {f : F1} (hf : ∀ (th : Nat) (G : Store), LayAt G x.L ((t : Nat) : Int) ((3 : Nat) : Int) ((3 + 12 * t : Nat) : Int) → f [.obj x.L, .int (th : Int)] G = .ok (.obj G.length) (G ++ [stoOb ⟨x.L, th, sortI (own9 t th), [], []⟩ (G.length + 1), .lst []])) (h3 : ρ[3]? = some (some (.obj M))) (hl : 14 < ρ.length) (hM : x.M = M) : ∀ (n j : Nat) (G : Store) (P : List (Nat × Ob)), W9 N t x m P G → ∃ (Ts : List Th9) (G' : Store), lcF (.nm 14) tTrue (eCallF f [] (aCons (eFld (eVar 3) [(5, 0), (1, 0)]) (aCons (eVar 14) aNil))) ρ ((List.range' j n).map fun (k : Nat) => Val.int (k : Int)) G = .ok (Ts.map fun T => Val.obj T.S0) G' ∧ W9 N t x m (Ts.flatMap (blk9 t) ++ P) G' ∧ Ts.length = n ∧ ∀ i T, Ts[i]? = some T → ∃ S0 D, T = new9 S0 D x.L (j + i) t := by
  intro n
  induction n with
  | zero =>
    intro j G P w
    exact ⟨[], G, rfl, w, rfl, fun i T h => by simp at h⟩
  | succ n ih =>
    intro j G P w
    have hm := w.b.at_.mem
    rw [hM] at hm
    have ml : fldV [(5, 0), (1, 0)] (.obj M) G = .ok (.obj x.L) G := fldV_at hm rfl
    have es := hf j G w.b.lay
    have w1 := (w.push (stoOb ⟨x.L, j, sortI (own9 t j), [], []⟩ (G.length + 1))).push (.lst [])
    simp only [List.length_append, List.length_singleton, List.append_assoc, List.cons_append, List.nil_append] at w1
    obtain ⟨Ts, G', e, w2, hlen, hT⟩ := ih (j + 1) _ _ w1
    have eb : blk9 t (new9 G.length (G.length + 1) x.L j t) = [(G.length, stoOb ⟨x.L, j, sortI (own9 t j), [], []⟩ (G.length + 1)), (G.length + 1, .lst [])] := by
      rfl
    refine ⟨new9 G.length (G.length + 1) x.L j t :: Ts, G', ?_, ?_, by rw [List.length_cons, hlen], fun i T hi => ?_⟩
    · rw [List.range'_succ, List.map_cons, List.map_cons]
      exact lcF_step9 pt_nm (te9 (by rw [List.getElem?_set_ne (by decide)]; exact h3) (List.getElem?_set_self hl) ml es) e
    · rw [List.flatMap_cons, eb]
      refine w2.perm ?_
      refine (List.Perm.append_left _ (List.Perm.swap _ _ _)).trans ?_
      rw [List.append_assoc]
      exact List.perm_append_comm_assoc _ [(G.length, stoOb ⟨x.L, j, sortI (own9 t j), [], []⟩ (G.length + 1)), (G.length + 1, .lst [])] _
    · cases i with
      | zero =>
        rw [List.getElem?_cons_zero] at hi
        cases hi
        exact ⟨_, _, rfl⟩
      | succ i =>
        rw [List.getElem?_cons_succ] at hi
        obtain ⟨S0, D, e⟩ := hT i T hi
        have ej : j + 1 + i = j + (i + 1) := by omega
        rw [ej] at e
        exact ⟨S0, D, e⟩
theorem fRep9 {v : Val} {k : Int} (h1 : -(2 ^ 63) ≤ k) (h2 : k < 2 ^ 63) (h3 : [v].length * k.toNat ≤ sizeLine) : fRep false (.fro [v]) (.int k) G = mkL false (List.replicate k.toNat [v]).flatten G := by
  unfold fRep
  simp only [lst_fro]
  rw [if_pos ⟨h1, h2, h3⟩]
theorem fMul9 {v : Val} {k : Int} {r : Val} {G1 : Store} (h : fRep false (.fro [v]) (.int k) G = .ok r G1) : fMul false (.fro [v]) (.int k) G = .ok r G1 := by
  have e1 : fMulI (.fro [v]) (.int k) G = .bad := rfl
  unfold fMul orF
  rw [e1]
  simp only [h]
theorem rep9 {v : Val} {t : Nat} (h : t = 2 ∨ t = 3) : fMul false (.fro [v]) (.int (t : Int)) G = .ok (.obj G.length) (G ++ [.lst (List.replicate t v)]) := by
  have h3 : [v].length * (t : Int).toNat ≤ sizeLine := by
    refine small_line ?_
    rw [Int.toNat_natCast, List.length_singleton, Nat.one_mul]
    omega
  have h1 : -(2 ^ 63) ≤ (t : Int) := by rcases h with rfl | rfl <;> decide
  have h2 : (t : Int) < 2 ^ 63 := by rcases h with rfl | rfl <;> decide
  refine fMul9 ?_
  rw [fRep9 h1 h2 h3, Int.toNat_natCast, mkL_f]
  have hf : (List.replicate t [v]).flatten = List.replicate t v := by
    rcases h with rfl | rfl <;> rfl
  rw [hf]
theorem map_rep {α β : Type} {f : α → β} {c : β} : ∀ {l : List α}, (∀ a ∈ l, f a = c) → l.map f = List.replicate l.length c
  | [], _ => rfl
  | a :: l, h => by rw [List.map_cons, h a (List.mem_cons_self ..), map_rep fun b hb => h b (List.mem_cons_of_mem _ hb), List.length_cons, List.replicate_succ]
theorem init_ab9 (h2 : 2 ≤ t) (h3 : t ≤ 3) : Ab9 t (Me.init t 3 (3 + 12 * t)) 0 fun _ => none := by
  have : t = 2 ∨ t = 3 := by omega
  rcases this with rfl | rfl
  · refine ⟨rfl, fun i hi => ?_⟩
    have : i = 0 ∨ i = 1 := by omega
    rcases this with rfl | rfl <;> rfl
  · refine ⟨rfl, fun i hi => ?_⟩
    have : i = 0 ∨ i = 1 ∨ i = 2 := by omega
    rcases this with rfl | rfl | rfl <;> rfl
theorem law_holds (ns : List Int) (hns : ns.length ≤ 63) (G0 : Store) : ∃ G, m_law [.scr (ns.map .int)] G0 = .ok (.bl true) G := by
  unfold m_law
  rw [run_eq (by rfl), tl_eq]
  obtain ⟨tp, et, hT, htl⟩ := s_ltape (G := G0) hns
  have l0 : ∀ G, m__law_at [.fro (tp.map .int), .int 0] G = .ok (.int (lat tp 0)) G := fun G => s_lat (k := 0)
  obtain ⟨n0, e0, b0⟩ : ∃ n : Nat, (n : Int) = lat tp 0 % 2 ∧ (n : Int) < 2 := ⟨(lat tp 0 % 2).toNat, by have := Int.emod_nonneg (lat tp 0) (by decide : (2 : Int) ≠ 0); omega, by have := Int.emod_lt_of_pos (lat tp 0) (by decide : (0 : Int) < 2); have := Int.emod_nonneg (lat tp 0) (by decide : (2 : Int) ≠ 0); omega⟩
  have md0 : ∀ G, fMod (.int (lat tp 0)) (.int 2) G = .ok (.int (n0 : Int)) G := fun G => by rw [fMod_ii (by decide), e0]
  obtain ⟨t, et1⟩ : ∃ t : Nat, t = 2 + n0 := ⟨_, rfl⟩
  have ct : (2 : Int) + (n0 : Int) = (t : Int) := by omega
  have t2 : 2 ≤ t := by omega
  have t3 : t ≤ 3 := by omega
  have er : (3 : Int) + 12 * (t : Int) = ((3 + 12 * t : Nat) : Int) := by omega
  have il := s_lay_init (G := G0) (t := (t : Int)) (w := 3) (r := ((3 + 12 * t : Nat) : Int)) (by omega) (by omega) (by decide) (by decide) (by omega) (by omega)
  have hL : LayAt (G0 ++ [.ins 0 [.int (t : Int), .int 3, .int ((3 + 12 * t : Nat) : Int)]]) G0.length (t : Int) ((3 : Nat) : Int) ((3 + 12 * t : Nat) : Int) := get_new
  obtain ⟨x, G1, im, hx, xM, xL, _, _, _⟩ := s_mem_init hL (by omega) (by omega) (by omega)
  simp only [List.length_append, List.length_singleton, List.append_assoc, List.cons_append, List.nil_append] at im xM
  have w0 : W9 0 t x (Me.init t 3 (3 + 12 * t)) [] G1 := ⟨⟨hx, wf_init (by omega), fun d hd => List.eq_of_mem_replicate (show d ∈ List.replicate t ([] : Prs) from hd), rfl, rfl, rfl, Nat.le_refl _⟩, List.nodup_nil, fun q hq => (by cases hq), fun q hq => (by cases hq)⟩
  generalize hsc : Val.scr (ns.map .int) = sc at et
  generalize hM : G0.length + 1 = M at im xM
  have ab0 := init_ab9 t2 t3
  generalize Me.init t 3 (3 + 12 * t) = m at w0 hx ab0
  have q0 : tl0 [some sc, none, none, none, none, none, none, none, none, none, none, none, none, none, none, none, none, none, none, none, none, none, none, none, none, none] G0 = .next [some sc, some (.fro (tp.map .int)), none, none, none, none, none, none, none, none, none, none, none, none, none, none, none, none, none, none, none, none, none, none, none, none] G0 := by
    unfold tl0
    simp [et]
  have q1 : tl1 [some sc, some (.fro (tp.map .int)), none, none, none, none, none, none, none, none, none, none, none, none, none, none, none, none, none, none, none, none, none, none, none, none] G0 = .next [some sc, some (.fro (tp.map .int)), some (.int (t : Int)), none, none, none, none, none, none, none, none, none, none, none, none, none, none, none, none, none, none, none, none, none, none, none] G0 := by
    unfold tl1
    simp [l0, md0, ct]
  have m12 : ∀ G, fMul true (.int 12) (.int (t : Int)) G = .ok (.int (12 * (t : Int))) G := fun G => fMul_l (by decide)
  have q2 : tl2 [some sc, some (.fro (tp.map .int)), some (.int (t : Int)), none, none, none, none, none, none, none, none, none, none, none, none, none, none, none, none, none, none, none, none, none, none, none] G0 = .next [some sc, some (.fro (tp.map .int)), some (.int (t : Int)), some (.obj M), none, none, none, none, none, none, none, none, none, none, none, none, none, none, none, none, none, none, none, none, none, none] G1 := by
    unfold tl2
    simp [m12, er, il, im, hM, -Int.natCast_add, -Int.natCast_mul]
  obtain ⟨Ts, G2, e3, w2, hlen, hTs⟩ := stores9 (M := M) (ρ := wipe1 [some sc, some (.fro (tp.map .int)), some (.int (t : Int)), some (.obj M), none, none, none, none, none, none, none, none, none, none, none, none, none, none, none, none, none, none, none, none, none, none] [14]) (f := m__law_store) (fun th G h => s_store9 h (by omega) t3) rfl (by simp [wipe1]) xM t 0 G1 [] w0
  have hTn : ∀ T ∈ Ts, ∃ S0 D i, T = new9 S0 D x.L i t := fun T hT => by
    obtain ⟨i, hi⟩ := List.getElem?_of_mem hT
    obtain ⟨S0, D, e⟩ := hTs i T hi
    exact ⟨S0, D, _, e⟩
  have q3 : tl3 [some sc, some (.fro (tp.map .int)), some (.int (t : Int)), some (.obj M), none, none, none, none, none, none, none, none, none, none, none, none, none, none, none, none, none, none, none, none, none, none] G1 = .next [some sc, some (.fro (tp.map .int)), some (.int (t : Int)), some (.obj M), some (.fro (Ts.map fun T => .obj T.S0)), none, none, none, none, none, none, none, none, none, none, none, none, none, none, none, none, none, none, none, none, none] G2 := by
    have ha : aCons (eVar 2) aNil [some sc, some (.fro (tp.map .int)), some (.int (t : Int)), some (.obj M), none, none, none, none, none, none, none, none, none, none, none, none, none, none, none, none, none, none, none, none, none, none] G1 = .ok [.int (t : Int)] G1 := rfl
    unfold tl3
    rw [v_set]
    unfold eLcFR
    rw [ha]
    simp only [bind_ok, rng1_nat (n := t) (by omega)]
    rw [if_pos (small_line (by simp; omega)), e3]
    rfl
  have q4 : tl4 [some sc, some (.fro (tp.map .int)), some (.int (t : Int)), some (.obj M), some (.fro (Ts.map fun T => .obj T.S0)), none, none, none, none, none, none, none, none, none, none, none, none, none, none, none, none, none, none, none, none, none] G2 = .next [some sc, some (.fro (tp.map .int)), some (.int (t : Int)), some (.obj M), some (.fro (Ts.map fun T => .obj T.S0)), some (.fro ((Ts.map fun T => T.s.spare).map fun f => .fro (f.map .int))), none, none, none, none, none, none, none, none, none, none, none, none, none, none, none, none, none, none, none, none] G2 := by
    unfold tl4
    rw [v_set, eLcF_map1 (enc := fun T : Th9 => Val.obj T.S0) Ts (fun T => .fro (T.s.spare.map .int)) (v := .fro (Ts.map fun T => .obj T.S0)) rfl (.inr rfl) (by omega) fun T hT => ?_]
    · rw [mkL_t, toS_ok, List.map_map]
      rfl
    · refine ⟨_, rfl, ?_⟩
      have h0 : StoAt G2 T.S0 T.D T.s := by
        obtain ⟨S0, D, i, rfl⟩ := hTn T hT
        have mem : ∀ q ∈ stoP S0 D (new9 S0 D x.L i t).s, q ∈ Ts.flatMap (blk9 t) ++ [] := fun q hq => List.mem_append_left _ (List.mem_flatMap.mpr ⟨_, hT, by unfold blk9; exact List.mem_append_left _ (List.mem_append_right _ hq)⟩)
        refine ⟨w2.at_ (S0, _) (mem _ (List.mem_cons_self ..)), w2.at_ (D, _) (mem _ (List.mem_cons_of_mem _ (List.mem_cons_self ..))), fun z => ?_⟩
        have a1 := w2.at_ (S0, _) (mem _ (List.mem_cons_self ..))
        have a2 := w2.at_ (D, _) (mem _ (List.mem_cons_of_mem _ (List.mem_cons_self ..)))
        have z : S0 = D := z
        rw [z] at a1
        rw [a1] at a2
        cases a2
      have ff := st_free h0
      simp [wipe1, methV_1 h0.ins, ff]
  have p5 := w2.push (.lst (List.replicate t .non))
  have p6 := p5.push (.lst (List.replicate t (.str 33)))
  have p7 := p6.push (.lst (List.replicate t (.int 0)))
  have p8 := p7.push (.lst (List.replicate t .non))
  have p9 := p8.push (.lst (List.replicate t (.fro [])))
  have ht23 : t = 2 ∨ t = 3 := by omega
  let A : A9 := ⟨G2.length, G2.length + 1, G2.length + 2, G2.length + 3, G2.length + 4⟩
  have g5 : (G2 ++ [Ob.lst (List.replicate t .non)]).length = G2.length + 1 := by simp
  have g6 : (G2 ++ [Ob.lst (List.replicate t .non)] ++ [Ob.lst (List.replicate t (.str 33))]).length = G2.length + 2 := by simp
  have g7 : (G2 ++ [Ob.lst (List.replicate t .non)] ++ [Ob.lst (List.replicate t (.str 33))] ++ [Ob.lst (List.replicate t (.int 0))]).length = G2.length + 3 := by simp
  have g8 : (G2 ++ [Ob.lst (List.replicate t .non)] ++ [Ob.lst (List.replicate t (.str 33))] ++ [Ob.lst (List.replicate t (.int 0))] ++ [Ob.lst (List.replicate t .non)]).length = G2.length + 4 := by simp
  rw [g5, g6, g7, g8] at p9
  let G3 : Store := G2 ++ [Ob.lst (List.replicate t .non)] ++ [Ob.lst (List.replicate t (.str 33))] ++ [Ob.lst (List.replicate t (.int 0))] ++ [Ob.lst (List.replicate t .non)] ++ [Ob.lst (List.replicate t (.fro []))]
  have c6 : Ts.map Th9.skV = List.replicate t .non := by rw [map_rep (c := .non) fun T hT => by obtain ⟨_, _, _, rfl⟩ := hTn T hT; rfl, hlen]
  have c7 : (Ts.map fun T => Val.str T.ph) = List.replicate t (.str 33) := by rw [map_rep (c := .str 33) fun T hT => by obtain ⟨_, _, _, rfl⟩ := hTn T hT; rfl, hlen]
  have c12 : Ts.map Th9.rwsV = List.replicate t (.fro []) := by rw [map_rep (c := .fro []) fun T hT => by obtain ⟨_, _, _, rfl⟩ := hTn T hT; rfl, hlen]
  have c8 : (List.replicate t (0 : Int)).map Val.int = List.replicate t (.int 0) := by rw [List.map_replicate]
  have c9 : (List.replicate t (none : Option Int)).map optV = List.replicate t .non := by rw [List.map_replicate]; rfl
  have wA : W9 0 t x m (pp9 A t (List.replicate t 0) (List.replicate t none) Ts) G3 := by
    unfold pp9
    rw [c6, c7, c8, c9, c12]
    rw [List.append_nil] at p9
    refine p9.perm ?_
    show ([(G2.length + 4, Ob.lst (List.replicate t (.fro []))), (G2.length + 3, Ob.lst (List.replicate t .non)), (G2.length + 2, Ob.lst (List.replicate t (.int 0))), (G2.length + 1, Ob.lst (List.replicate t (.str 33))), (G2.length, Ob.lst (List.replicate t .non))] ++ Ts.flatMap (blk9 t)).Perm _
    refine List.Perm.append_right _ ?_
    exact (List.reverse_perm (lw9 A (List.replicate t .non) (List.replicate t (.str 33)) (List.replicate t (.int 0)) (List.replicate t .non) (List.replicate t (.fro []))))
  have iv : I9 t 0 (fun _ => none) [] 0 (List.replicate t none) (Ts.map fun T => T.s.spare) Ts := by
    refine ⟨hlen, by simp, by rw [List.length_map]; exact hlen, fun f hf => ?_, ⟨fun c hc => by cases hc⟩, fun i T f hi hf => ?_, fun T hT r hr => ?_⟩
    · obtain ⟨T, hT, rfl⟩ := List.mem_map.mp hf
      obtain ⟨_, _, i, rfl⟩ := hTn T hT
      exact ⟨own9_nd.1, own9_nd.2.1⟩
    · obtain ⟨S0, D, rfl⟩ := hTs i T hi
      rw [List.getElem?_map, hi] at hf
      cases hf
      refine ⟨by show 0 + i = i; omega, ?_, fun q hq => (by cases hq), .out33 _ rfl rfl fun ⟨k, hk⟩ => (by cases hk)⟩
      show (sortI (own9 t (0 + i)) ++ [] ++ []).Perm _
      rw [List.append_nil, List.append_nil]
      exact List.Perm.refl _
    · obtain ⟨_, _, i, rfl⟩ := hTn T hT
      cases hr
  have h9 : L9 0 t M x.L A x m G3 0 (fun _ => none) [] 0 (List.replicate t 0) (List.replicate t none) (Ts.map fun T => T.s.spare) Ts := ⟨wA, ab0, iv, by simp, fun T hT => (by obtain ⟨_, _, _, rfl⟩ := hTn T hT; rfl), xM, rfl, fun f hf => by
    obtain ⟨T, hT, rfl⟩ := List.mem_map.mp hf
    obtain ⟨_, _, i, rfl⟩ := hTn T hT
    have := (own9_nd (t := t) (th := i)).2.2
    show (sortI (own9 t i)).length ≤ 1000
    omega⟩
  have z9 : Z9 0 (1300 * 0) [] Ts := by
    refine ⟨Nat.le_refl _, fun T hT => ?_, fun T hT => ?_, fun T hT r hr => ?_, fun T hT r hr => ?_⟩ <;> obtain ⟨_, _, i, rfl⟩ := hTn T hT
    · exact Nat.le_refl _
    · exact Nat.le_refl _
    · cases hr
    · cases hr
  have fx : Fx9 t (Ts.map fun T => .obj T.S0) ((Ts.map fun T => T.s.spare).map fun f => .fro (f.map .int)) (Ts.map fun T => T.s.spare) Ts := ⟨rfl, rfl⟩
  generalize hfs : (Ts.map fun T => T.s.spare) = fs at h9 fx iv q4
  generalize hst : (Ts.map fun T => Val.obj T.S0) = st at q3 q4 fx
  generalize hfr : fs.map (fun f => Val.fro (f.map .int)) = fr at q4 fx
  have q5 : ∀ r : Env1, tl5 ([some sc, some (.fro (tp.map .int)), some (.int (t : Int)), some (.obj M), some (.fro st), some (.fro fr), none] ++ r) G2 = .next ([some sc, some (.fro (tp.map .int)), some (.int (t : Int)), some (.obj M), some (.fro st), some (.fro fr), some (.obj A.a6)] ++ r) (G2 ++ [Ob.lst (List.replicate t .non)]) := fun r => by
    unfold tl5
    simp [rep9 ht23, A]
  have q6 : ∀ r : Env1, tl6 ([some sc, some (.fro (tp.map .int)), some (.int (t : Int)), some (.obj M), some (.fro st), some (.fro fr), some (.obj A.a6), none] ++ r) (G2 ++ [Ob.lst (List.replicate t .non)]) = .next ([some sc, some (.fro (tp.map .int)), some (.int (t : Int)), some (.obj M), some (.fro st), some (.fro fr), some (.obj A.a6), some (.obj A.a7)] ++ r) (G2 ++ [Ob.lst (List.replicate t .non)] ++ [Ob.lst (List.replicate t (.str 33))]) := fun r => by
    unfold tl6
    simp [rep9 ht23, A]
  have q7 : ∀ r : Env1, tl7 ([some sc, some (.fro (tp.map .int)), some (.int (t : Int)), some (.obj M), some (.fro st), some (.fro fr), some (.obj A.a6), some (.obj A.a7), none] ++ r) (G2 ++ [Ob.lst (List.replicate t .non)] ++ [Ob.lst (List.replicate t (.str 33))]) = .next ([some sc, some (.fro (tp.map .int)), some (.int (t : Int)), some (.obj M), some (.fro st), some (.fro fr), some (.obj A.a6), some (.obj A.a7), some (.obj A.a8)] ++ r) (G2 ++ [Ob.lst (List.replicate t .non)] ++ [Ob.lst (List.replicate t (.str 33))] ++ [Ob.lst (List.replicate t (.int 0))]) := fun r => by
    unfold tl7
    simp [rep9 ht23, A]
  have q8 : ∀ r : Env1, tl8 ([some sc, some (.fro (tp.map .int)), some (.int (t : Int)), some (.obj M), some (.fro st), some (.fro fr), some (.obj A.a6), some (.obj A.a7), some (.obj A.a8), none] ++ r) (G2 ++ [Ob.lst (List.replicate t .non)] ++ [Ob.lst (List.replicate t (.str 33))] ++ [Ob.lst (List.replicate t (.int 0))]) = .next ([some sc, some (.fro (tp.map .int)), some (.int (t : Int)), some (.obj M), some (.fro st), some (.fro fr), some (.obj A.a6), some (.obj A.a7), some (.obj A.a8), some (.obj A.a9)] ++ r) (G2 ++ [Ob.lst (List.replicate t .non)] ++ [Ob.lst (List.replicate t (.str 33))] ++ [Ob.lst (List.replicate t (.int 0))] ++ [Ob.lst (List.replicate t .non)]) := fun r => by
    unfold tl8
    simp [rep9 ht23, A]
  let G4 : Store := G2 ++ [Ob.lst (List.replicate t .non)] ++ [Ob.lst (List.replicate t (.str 33))] ++ [Ob.lst (List.replicate t (.int 0))] ++ [Ob.lst (List.replicate t .non)]
  have q9 : ∀ r : Env1, tl9 ([some sc, some (.fro (tp.map .int)), some (.int (t : Int)), some (.obj M), some (.fro st), some (.fro fr), some (.obj A.a6), some (.obj A.a7), some (.obj A.a8), some (.obj A.a9), none] ++ r) G4 = .next ([some sc, some (.fro (tp.map .int)), some (.int (t : Int)), some (.obj M), some (.fro st), some (.fro fr), some (.obj A.a6), some (.obj A.a7), some (.obj A.a8), some (.obj A.a9), some (.fro [])] ++ r) G4 := fun r => by
    unfold tl9
    simp
  have q10 : ∀ r : Env1, tl10 ([some sc, some (.fro (tp.map .int)), some (.int (t : Int)), some (.obj M), some (.fro st), some (.fro fr), some (.obj A.a6), some (.obj A.a7), some (.obj A.a8), some (.obj A.a9), some (.fro []), none] ++ r) G4 = .next ([some sc, some (.fro (tp.map .int)), some (.int (t : Int)), some (.obj M), some (.fro st), some (.fro fr), some (.obj A.a6), some (.obj A.a7), some (.obj A.a8), some (.obj A.a9), some (.fro []), some (.int 0)] ++ r) G4 := fun r => by
    unfold tl10
    simp
  have g4 : G4.length = A.a12 := g8
  have q11 : tl11 [some sc, some (.fro (tp.map .int)), some (.int (t : Int)), some (.obj M), some (.fro st), some (.fro fr), some (.obj A.a6), some (.obj A.a7), some (.obj A.a8), some (.obj A.a9), some (.fro []), some (.int 0), none, none, none, none, none, none, none, none, none, none, none, none, none, none] G4 = .next (e9 sc tp t M st fr A [] 0 none none none none none none none none none none none none none) G3 := by
    unfold tl11
    rw [v_set, eLcFR_of (vs := [.int (t : Int)]) (l := (List.range' 0 t).map fun (k : Nat) => Val.int (k : Int)) (f := fun _ => true) (g := fun _ => .fro []) rfl (rng1_nat (by omega)) (by simp; omega) fun v hv => ⟨_, rfl, rfl, fun _ => by simp⟩]
    have er : (((List.range' 0 t).map fun (k : Nat) => Val.int (k : Int)).filter fun _ => true).map (fun _ => Val.fro []) = List.replicate t (.fro []) := by
      rw [List.filter_eq_self.mpr fun _ _ => rfl, map_rep (f := fun _ => Val.fro []) (c := .fro []) fun _ _ => rfl, List.length_map, List.length_range']
    rw [er, mkL_f, toS_ok, g4]
    rfl
  obtain ⟨n, hn, en⟩ : ∃ n : Nat, n ≤ 200 ∧ ∀ J, bMin [.int 200, .int (if (tp.length : Int) - 2 > 0 then (tp.length : Int) - 2 else 0)] J = .ok (.int (n : Int)) J := by
    by_cases h1 : (tp.length : Int) - 2 > 0
    · by_cases h0 : (tp.length : Int) - 2 < 200
      · exact ⟨tp.length - 2, by omega, fun J => by
          rw [if_pos h1, bMin_ii, if_pos h0]
          have : ((tp.length - 2 : Nat) : Int) = (tp.length : Int) - 2 := by omega
          rw [this]⟩
      · exact ⟨200, Nat.le_refl _, fun J => by rw [if_pos h1, bMin_ii, if_neg h0]; rfl⟩
    · exact ⟨0, by omega, fun J => by rw [if_neg h1, bMin_ii, if_pos (by decide)]; rfl⟩
  have q12 : tl12 (e9 sc tp t M st fr A [] 0 none none none none none none none none none none none none none) G3 = forIt (.nm 13) b_law_l3 ((List.range' 0 n).map fun (k : Nat) => Val.int (k : Int)) (e9 sc tp t M st fr A [] 0 none none none none none none none none none none none none none) G3 := by
    unfold tl12
    rw [v_forR]
    have ea : aCons (eCall bMin (aCons (eC (.int 200)) (aCons (eCall bMax (aCons (eC (.int 0)) (aCons (eOp fSub (eCall bLen (aCons (eVar 1) aNil)) (eC (.int 2))) aNil))) aNil))) aNil (e9 sc tp t M st fr A [] 0 none none none none none none none none none none none none none) G3 = .ok [.int (n : Int)] G3 := by
      simp only [e_aCons, e_call, e_c, e_op, e_var, e9, List.getElem?_cons_succ, List.getElem?_cons_zero, bind_ok, bLen_fro, List.length_map, fSub_ii, e_aNil, bMax_ii, en]
    rw [ea, toS_ok, rng1_nat (n := n) (by omega)]
  obtain ⟨x5, m5, G5, E5, sl5, act5, ser5, wk5, shl5, Ts5, p13, p14, p15, p16, p17, p19, p20, p21, p22, e5, h5, z5, fx5⟩ := turns9 (sc := sc) (tp := tp) (o18 := none) (o23 := none) (o24 := none) (o25 := none) (N := 0) (by omega) t3 (by decide) n 0 0 x m G3 0 (fun _ => none) [] 0 (List.replicate t 0) (List.replicate t none) Ts none none none none none none none none none (by omega) h9 z9 fx
  have l5 := h5.last z5 (by omega)
  obtain ⟨ρ', G6, e6⟩ := lones9 (sc := sc) (tp := tp) (act := act5) (ser := ser5) (o13 := p13) (o15 := p15) (o16 := p16) (o17 := p17) (o19 := p19) (o20 := p20) (o21 := p21) (o22 := p22) (o23 := none) (o24 := none) (o25 := none) t3 t 0 _ x5 m5 G5 E5 Ts5 p14 none (by omega) (by omega) l5 fx5
  have q13 : tl13 (e9 sc tp t M st fr A act5 ser5 p13 p14 p15 p16 p17 none p19 p20 p21 p22 none none none) G5 = .next ρ' G6 := by
    unfold tl13
    rw [v_forR]
    have ev : aCons (eVar 2) aNil (e9 sc tp t M st fr A act5 ser5 p13 p14 p15 p16 p17 none p19 p20 p21 p22 none none none) G5 = .ok [.int (t : Int)] G5 := rfl
    rw [ev, toS_ok, rng1_nat (n := t) (by omega)]
    exact e6
  refine ⟨G6, ?_⟩
  have q5' := q5 (List.replicate 19 none)
  have q6' := q6 (List.replicate 18 none)
  have q7' := q7 (List.replicate 17 none)
  have q8' := q8 (List.replicate 16 none)
  have q9' := q9 (List.replicate 15 none)
  have q10' := q10 (List.replicate 14 none)
  simp only [List.replicate, List.cons_append, List.nil_append] at q5' q6' q7' q8' q9' q10'
  show fin ((sSeq tl0 _) [some sc, none, none, none, none, none, none, none, none, none, none, none, none, none, none, none, none, none, none, none, none, none, none, none, none, none] G0) = _
  rw [v_seq, q0, then_next, v_seq, q1, then_next, v_seq, q2, then_next, v_seq, q3, then_next, v_seq, q4, then_next, v_seq, q5', then_next, v_seq, q6', then_next, v_seq, q7', then_next, v_seq, q8', then_next, v_seq, q9', then_next, v_seq, q10', then_next, v_seq, q11, then_next, v_seq, q12, e5, then_next, v_seq, q13, then_next]
  rfl
theorem mirror_holds : ∀ ns : List Int, ns.length ≤ 63 → ∃ G, m_law [.scr (ns.map .int)] [] = .ok (.bl true) G := fun ns h => law_holds ns h []
end
end Dk
open PySem PySem.W PySem.Calls PyProof.Rows
theorem PySem.Challenge.cw_driftkept_k09_whole_epochs_holds : PySem.Challenge.rw_driftkept_k09_whole_epochs.Holds := by
  w_on; o_law
  refine HandSHeadRun.head_any (r := OpenLaw.row PySem.Challenge.rw_driftkept_k09_whole_epochs) (q := view (OpenLaw.row PySem.Challenge.rw_driftkept_k09_whole_epochs).prog [30]) (H := Dk.hk) (ob := Dk.ob) (M := 5000) (loose := Dk.loose) (d := HandSHeadRun.topDef (OpenLaw.row PySem.Challenge.rw_driftkept_k09_whole_epochs).prog 30) (kwd := []) Dk.ob_eq
    (by kernel_rfl) (fun s => by kernel_rfl) Dk.run (by kernel_rfl) (by kernel_rfl) (by kernel_rfl) (by rfl) (by first | assumption | decide +kernel) (by decide +kernel) ⟨rfl, rfl, rfl, rfl, rfl, by decide +kernel⟩ ?hw ?hc
  case hw => w_witness2
  case hc =>
    refine L2.walk_ofE (l := PySem.Challenge.rw_driftkept_k09_whole_epochs) (n := 63) (k := 10) (x := "_law_script") (CX := L2.CX0) rfl (by decide) (by kernel_rfl) ⟨rfl, by decide, by decide⟩ ?F (fun _ _ _ _ z => z)
    intro w mg fa h Y G hmg0
    obtain ⟨K, KX, c⟩ := Y
    have hmg : mg ("law" : PySem.Str) = some (.ref fa) := by
      have e : (HandSHeadRun.topDef (OpenLaw.row PySem.Challenge.rw_driftkept_k09_whole_epochs).prog 30).name = ("law" : PySem.Str) := by kernel_rfl
      rw [← e]
      exact hmg0
    have T : R1.Txt Dk.fa Dk.fn Dk.fx Dk.ts w K mg := R1.txt_of c KX G
    obtain ⟨fd, F⟩ := T.says.def_ 52 (d := Dk.d_law) rfl
    have e := hmg.symm.trans (T.glo 104)
    cases e
    have b := L2.FunD.bindsA (ps := ["_law_script"]) F (fun _ _ _ _ _ _ us hl => match us, hl with | [_], _ => rfl)
    exact ⟨K, fd, R1.spF K 1 Dk.m_law, KX, fun s v => b s [v] rfl, fun H a ns hl ho hS => R1.end_of ho hS (Dk.mirror_holds ns hl), fun base _ _ => Dk.ok_law T F⟩
