import PyProof.Rows.All
import Wide.All
import OpenK.AllK
import Wide.FinOn
import HandS.ForMost
import HandS.Defaults
import HandS.HeadHook3
import KE.DataEq
import HandS.TupAny
import HandS.Style
import HandS.IsInst
import HandS.SortInts
import HandS.NoneIn
import HandS.Codes
import HandS.Iter
import HandS.Comp
import HandS.Small
import HandS.SetFor
import HandS.More
import HandS.Head0
import HandS.Head1
import HandS.Head2
import HandS.HeadEnd
import HandS.HeadHook1
import HandS.HeadHook2
import HandS.DictComp
import HandS.Conv
import KE.SortKeyHeap
import KE.SortLaws
import HandS.DictTup
import HandS.ListItems
import KE.SortData
import HandS.ExcCtx
import HandS.ExcIs
import HandS.Deep
import PySem.Challenge.RW_driftkept_k02_whole_memory_that_lasts
set_option Elab.async false
set_option linter.all false
set_option maxRecDepth 100000
set_option maxHeartbeats 0
/-! R1a: values and a store of one's own; how they lie in the heap; what an expression, a test, a statement does, as functions of the store. -/
namespace R1
open PySem PySem.Spec PyProof.Rows L2

/-! ### the words and the classes, by number -/
def words0 : List Str := [("" : Str), ("items" : Str), ("read" : Str), ("write" : Str), ("swap" : Str), ("decide" : Str), ("flush" : Str), ("fence" : Str), ("word" : Str), ("done" : Str), ("access" : Str), ("drift" : Str), ("refused" : Str), ("cut" : Str), ("end" : Str), ("trails" : Str), ("notes" : Str), ("count" : Str), ("failed" : Str), ("call" : Str), ("deed" : Str), ("record" : Str), ("last" : Str), ("help" : Str), ("status" : Str), ("final" : Str), ("x" : Str), ("again" : Str), ("slot" : Str), ("move" : Str), ("stamp" : Str), ("other" : Str)]
def words1 : List Str := [("epoch" : Str), ("out" : Str), ("in" : Str), ("leaving" : Str), ("entering" : Str), ("rows" : Str), ("a" : Str), ("look" : Str), ("put" : Str), ("take" : Str), ("change" : Str), ("puts" : Str), ("answer" : Str), ("full" : Str), ("undone" : Str), ("time" : Str), ("row" : Str), ("missing" : Str), ("twice" : Str), ("enter" : Str), ("do" : Str), ("told" : Str), ("seen" : Str), ("leave" : Str), ("words" : Str), ("slots" : Str), ("mark" : Str), ("odd" : Str), ("lost" : Str), ("history" : Str), ("memory" : Str), ("map" : Str)]
def words : List Str := words0 ++ words1
theorem words_nodup : words.Nodup := by decide +kernel
theorem words_short : ∀ s ∈ words, s.cps.size < 64 := by decide +kernel
/-- the word with a number -/
def nm (k : Nat) : Str := match words[k]? with
  | some s => s
  | none => ⟨Array.replicate (k + 64) 97⟩
theorem nm_inj {j k : Nat} (h : nm j = nm k) : j = k := by
  unfold nm at h
  cases e1 : words[j]? with
  | some s =>
    cases e2 : words[k]? with
    | some t =>
      rw [e1, e2] at h
      have h : s = t := h
      subst h
      obtain ⟨h1, q1⟩ := List.getElem?_eq_some_iff.mp e1
      obtain ⟨h2, q2⟩ := List.getElem?_eq_some_iff.mp e2
      exact (List.getElem_inj words_nodup).mp (q1.trans q2.symm)
    | none =>
      rw [e1, e2] at h
      have h : s = ⟨Array.replicate (k + 64) 97⟩ := h
      have q := words_short s (List.mem_of_getElem? e1)
      rw [h] at q
      simp at q
      omega
  | none =>
    cases e2 : words[k]? with
    | some t =>
      rw [e1, e2] at h
      have h : ⟨Array.replicate (j + 64) 97⟩ = t := h
      have q := words_short t (List.mem_of_getElem? e2)
      rw [← h] at q
      simp at q
      omega
    | none =>
      rw [e1, e2] at h
      have h : (⟨Array.replicate (j + 64) 97⟩ : Str) = ⟨Array.replicate (k + 64) 97⟩ := h
      have q := congrArg (fun s : Str => s.cps.size) h
      simp at q
      exact q
theorem nm_eq (j k : Nat) : decide (nm j = nm k) = decide (j = k) := by
  by_cases h : j = k
  · rw [h, decide_eq_true rfl, decide_eq_true rfl]
  · rw [decide_eq_false h, decide_eq_false fun q => h (nm_inj q)]
/-- the classes: name, fields in the order in which an instance gets them -/
def classes : List (Str × List Str) := [("Layout", ["threads", "words", "records"]),
  ("Memory", ["layout", "count", "rows", "trails", "notes"]),
  ("Shown", ["cell", "mark", "first", "result"]),
  ("Stack", ["machines", "result"]),
  ("Doing", ["address", "without", "status", "entries", "index", "state", "helper", "verdict", "left"]),
  ("Store", ["layout", "thread", "spare", "taken_out", "delayed"]),
  ("Entering", ["epoch_cell", "slot", "state", "epoch"]),
  ("Leaving", ["store", "epoch", "others", "state"]),
  ("Making", ["left"]),
  ("KeyCall", ["store", "call", "number", "without", "layout", "slot", "answer", "witness", "done", "status", "failed", "left", "rows", "records", "seen", "cells", "olds", "state", "wanted"]),
  ("Recovering", ["layout", "left", "slots", "deeds", "statuses", "addresses", "held", "mark", "todo", "state", "wanted"]),
  ("Worker", ["calls", "index", "is_open", "machine", "stack", "first"]),
  ("World", ["layout", "memory", "without", "workers", "rows", "recovery", "stores"])]
def cname (c : Nat) : Str := (classes.getD c ("", [])).1
def cfields (c : Nat) : List Str := (classes.getD c ("", [])).2
theorem fields_ok (c : Nat) : (cfields c).Nodup ∧ (cfields c).length < 100 := by
  have h : ∀ q ∈ classes, q.2.Nodup ∧ q.2.length < 100 := by decide +kernel
  unfold cfields
  rw [List.getD_eq_getElem?_getD]
  cases e : classes[c]? with
  | none => exact ⟨List.nodup_nil, by decide⟩
  | some q => exact h q (List.mem_of_getElem? e)
/-- a key of a dict: an int, a word -/
abbrev Ky := Sum Int Nat
def kyOf : Ky → Key
  | .inl i => .inl i
  | .inr k => .inr (nm k)
theorem kyOf_inj {a b : Ky} (h : kyOf a = kyOf b) : a = b := by
  cases a with
  | inl i =>
    cases b with
    | inl j => rw [Sum.inl.inj h]
    | inr j => cases h
  | inr i =>
    cases b with
    | inl j => cases h
    | inr j => rw [nm_inj (Sum.inr.inj h)]
/-- a value: texts by their number, tuples by value, what may change by its index in the store -/
inductive Val where
  | non | bl (b : Bool) | int (i : Int) | str (k : Nat) | tup (l : List Val) | fro (l : List Val) | scr (l : List Val) | frd (l : List (Ky × Val)) | obj (i : Nat)
instance : Inhabited Val := ⟨.non⟩
/-- an object: a list, a dict (keys ints and texts), a dict that is walked, an instance of the class c with the values of its fields -/
inductive Ob where
  | lst (xs : List Val) | dic (kvs : List (Ky × Val)) | lok (kvs : List (Ky × Val)) | ins (c : Nat) (vs : List Val)
abbrev Store := List Ob
inductive Res (α : Type) where
  | ok (a : α) (G : Store) | exc (c : Str) (G : Store) | bad
def Res.bind {α β : Type} (r : Res α) (f : α → Store → Res β) : Res β := match r with
  | .ok a G => f a G
  | .exc c G => .exc c G
  | .bad => .bad
abbrev Env1 := List (Option Val)
abbrev EM := Env1 → Store → Res Val
abbrev TM := Env1 → Store → Res Bool
abbrev AM := Env1 → Store → Res (List Val)

/-! ### how a value lies in the heap -/
/-- where the store's objects lie; M: the addresses whose objects may change -/
structure Vw where
  f : Nat → Addr
  M : Addr → Prop
instance : CoeFun Vw fun _ => Nat → Addr := ⟨Vw.f⟩
/-- a list that is never changed -/
def SqF (M : Addr → Prop) (H : Hp) (a : Addr) (xs : List V) : Prop := H a = some (.lst xs) ∧ ¬ M a
/-- the script -/
def SqS (K : PySem.W.Frag) (H : Hp) (a : Addr) (xs : List V) : Prop :=
  (∃ o, H a = some (.frz o (.lst xs))) ∨
    ∃ (o : Obj) (its : Array Value) (n : Nat), K.lookup a = some o ∧ o.cls = .type "list" ∧ o.dict = none ∧ o.data = .seq its n ∧ its.size ≤ sizeLine ∧ Vals xs its.toList
theorem SqF.l {K : PySem.W.Frag} {M : Addr → Prop} {H : Hp} {a : Addr} {xs : List V} (h : SqF M H a xs) : SqL K H a xs := .of h.1
theorem SqS.l {K : PySem.W.Frag} {H : Hp} {a : Addr} {xs : List V} (h : SqS K H a xs) : SqL K H a xs := by
  rcases h with h | h
  · exact .inl (.inr h)
  · exact .inr h
/-- a dict that is only read -/
def DcF (M : Addr → Prop) (H : Hp) (a : Addr) (kws : List (Key × V)) : Prop := (H a = some (.dK kws) ∨ ∃ o, H a = some (.frz o (.dK kws))) ∧ ¬ M a
section
variable (K : PySem.W.Frag) (ι : Vw) (n : Nat) (H : Hp)
mutual
def Rep : Val → V → Prop
  | .non, x => x = .non
  | .bl b, x => x = .bl b
  | .int i, x => x = .int i
  | .str k, x => x = .str (nm k)
  | .tup l, x => ∃ a xs, x = .ref a ∧ SqT K H a xs ∧ Reps l xs
  | .fro l, x => ∃ a xs, x = .ref a ∧ SqF ι.M H a xs ∧ Reps l xs
  | .scr l, x => ∃ a xs, x = .ref a ∧ SqS K H a xs ∧ Reps l xs
  | .frd l, x => ∃ a xs, x = .ref a ∧ DcF ι.M H a xs ∧ KReps l xs
  | .obj i, x => i < n ∧ x = .ref (ι i)
def Reps : List Val → List V → Prop
  | [], xs => xs = []
  | v :: vs, xs => ∃ y ys, xs = y :: ys ∧ Rep v y ∧ Reps vs ys
/-- a dict's pairs -/
def KReps : List (Ky × Val) → List (Key × V) → Prop
  | [], xs => xs = []
  | (k, v) :: qs, xs => ∃ y ys, xs = (kyOf k, y) :: ys ∧ Rep v y ∧ KReps qs ys
end
/-- an instance's values, by the names of its fields -/
def FReps : List Str → List Val → List (Str × V) → Prop
  | _, [], xs => xs = []
  | [], _ :: _, _ => False
  | f :: fs, v :: vs, xs => ∃ y ys, xs = (f, y) :: ys ∧ Rep K ι n H v y ∧ FReps fs vs ys
/-- a class whose instances are plain -/
structure ClsOk (c : Nat) : Prop where
  cls : Cls K (He.ga K (cname c))
  fld : ∀ f ∈ cfields c, NoAttr K (He.ga K (cname c)) f
def ORep : Ob → Addr → Prop
  | .lst l, a => ∃ xs, H a = some (.lst xs) ∧ Reps K ι n H l xs
  | .dic kvs, a => ∃ kws, H a = some (.dK kws) ∧ KReps K ι n H kvs kws
  | .lok kvs, a => ∃ o kws, H a = some (.frz o (.dK kws)) ∧ KReps K ι n H kvs kws
  | .ins c vs, a => ClsOk K c ∧ ∃ dx gs, H a = some (.ins (He.ga K (cname c)) dx gs) ∧ FReps K ι n H (cfields c) vs gs
end
/-- the store lies in the heap -/
structure Sim (K : PySem.W.Frag) (ι : Vw) (G : Store) (H : Hp) : Prop where
  inj : ∀ i j, i < G.length → j < G.length → ι i = ι j → i = j
  mu : ∀ i, i < G.length → ι.M (ι i)
  dom : ∀ a, ι.M a → ∃ u, H a = some u
  obj : ∀ i o, G[i]? = some o → ORep K ι G.length H o (ι i)
/-- what a run keeps: the old indices, all that is only read, what is held aside -/
structure Ext (K : PySem.W.Frag) (ι : Vw) (n : Nat) (H : Hp) (ι' : Vw) (n' : Nat) (H' : Hp) : Prop where
  le : n ≤ n'
  same : ∀ i, i < n → ι' i = ι i
  tup : ∀ a xs, SqT K H a xs → SqT K H' a xs
  fro : ∀ a xs, SqF ι.M H a xs → SqF ι'.M H' a xs
  frd : ∀ a xs, DcF ι.M H a xs → DcF ι'.M H' a xs
  frz : ∀ a o u, H a = some (.frz o u) → H' a = some (.frz o u)
  res : ∀ a u, ι.M a → (∀ i, i < n → ι i ≠ a) → H a = some u → H' a = some u ∧ ι'.M a ∧ ∀ i, i < n' → ι' i ≠ a
/-- what values ask of that -/
structure Ext0 (K : PySem.W.Frag) (ι : Vw) (n : Nat) (H : Hp) (ι' : Vw) (n' : Nat) (H' : Hp) : Prop where
  le : n ≤ n'
  same : ∀ i, i < n → ι' i = ι i
  tup : ∀ a xs, SqT K H a xs → SqT K H' a xs
  fro : ∀ a xs, SqF ι.M H a xs → SqF ι'.M H' a xs
  frd : ∀ a xs, DcF ι.M H a xs → DcF ι'.M H' a xs
  scr : ∀ a xs, SqS K H a xs → SqS K H' a xs
section
variable {K : PySem.W.Frag} {ι ι' ι2 : Vw} {n n' n2 : Nat} {H H' H2 : Hp}
theorem Ext.refl : Ext K ι n H ι n H := ⟨Nat.le_refl _, fun _ _ => rfl, fun _ _ h => h, fun _ _ h => h, fun _ _ h => h, fun _ _ _ h => h, fun _ _ h1 h2 h3 => ⟨h3, h1, h2⟩⟩
theorem Ext.trans (a : Ext K ι n H ι' n' H') (b : Ext K ι' n' H' ι2 n2 H2) : Ext K ι n H ι2 n2 H2 :=
  ⟨Nat.le_trans a.le b.le, fun i h => (b.same i (Nat.lt_of_lt_of_le h a.le)).trans (a.same i h), fun x xs h => b.tup x xs (a.tup x xs h), fun x xs h => b.fro x xs (a.fro x xs h), fun x xs h => b.frd x xs (a.frd x xs h), fun x o u h => b.frz x o u (a.frz x o u h), fun x u h1 h2 h3 => let ⟨e1, e2, e3⟩ := a.res x u h1 h2 h3; b.res x u e2 e3 e1⟩
mutual
theorem Rep.ext0 (e : Ext0 K ι n H ι' n' H') : ∀ {v : Val} {x : V}, Rep K ι n H v x → Rep K ι' n' H' v x
  | .non, _, h => h
  | .bl _, _, h => h
  | .int _, _, h => h
  | .str _, _, h => h
  | .tup l, _, ⟨a, xs, h1, h2, h3⟩ => ⟨a, xs, h1, e.tup a xs h2, Reps.ext0 e h3⟩
  | .fro l, _, ⟨a, xs, h1, h2, h3⟩ => ⟨a, xs, h1, e.fro a xs h2, Reps.ext0 e h3⟩
  | .scr l, _, ⟨a, xs, h1, h2, h3⟩ => ⟨a, xs, h1, e.scr a xs h2, Reps.ext0 e h3⟩
  | .frd l, _, ⟨a, xs, h1, h2, h3⟩ => ⟨a, xs, h1, e.frd a xs h2, KReps.ext0 e h3⟩
  | .obj i, _, ⟨h1, h2⟩ => ⟨Nat.lt_of_lt_of_le h1 e.le, by rw [e.same i h1]; exact h2⟩
theorem Reps.ext0 (e : Ext0 K ι n H ι' n' H') : ∀ {l : List Val} {xs : List V}, Reps K ι n H l xs → Reps K ι' n' H' l xs
  | [], _, h => h
  | _ :: _, _, ⟨y, ys, h1, h2, h3⟩ => ⟨y, ys, h1, Rep.ext0 e h2, Reps.ext0 e h3⟩
theorem KReps.ext0 (e : Ext0 K ι n H ι' n' H') : ∀ {l : List (Ky × Val)} {xs : List (Key × V)}, KReps K ι n H l xs → KReps K ι' n' H' l xs
  | [], _, h => h
  | (_, _) :: _, _, ⟨y, ys, h1, h2, h3⟩ => ⟨y, ys, h1, Rep.ext0 e h2, KReps.ext0 e h3⟩
end
theorem FReps.ext0 (e : Ext0 K ι n H ι' n' H') : ∀ {fs : List Str} {l : List Val} {xs : List (Str × V)}, FReps K ι n H fs l xs → FReps K ι' n' H' fs l xs
  | [], [], _, h => h
  | _ :: _, [], _, h => h
  | [], _ :: _, _, h => h.elim
  | _ :: _, _ :: _, _, ⟨y, ys, h1, h2, h3⟩ => ⟨y, ys, h1, Rep.ext0 e h2, FReps.ext0 e h3⟩
theorem Ext.e0 (e : Ext K ι n H ι' n' H') : Ext0 K ι n H ι' n' H' := ⟨e.le, e.same, e.tup, e.fro, e.frd, fun a xs h => h.imp (fun ⟨o, h⟩ => ⟨o, e.frz a o _ h⟩) id⟩
theorem Rep.ext (e : Ext K ι n H ι' n' H') {v : Val} {x : V} (h : Rep K ι n H v x) : Rep K ι' n' H' v x := Rep.ext0 e.e0 h
theorem Reps.ext (e : Ext K ι n H ι' n' H') {l : List Val} {xs : List V} (h : Reps K ι n H l xs) : Reps K ι' n' H' l xs := Reps.ext0 e.e0 h
theorem KReps.ext (e : Ext K ι n H ι' n' H') {l : List (Ky × Val)} {xs : List (Key × V)} (h : KReps K ι n H l xs) : KReps K ι' n' H' l xs := KReps.ext0 e.e0 h
theorem FReps.ext (e : Ext K ι n H ι' n' H') {fs : List Str} {l : List Val} {xs : List (Str × V)} (h : FReps K ι n H fs l xs) : FReps K ι' n' H' fs l xs := FReps.ext0 e.e0 h
theorem Reps.length : ∀ {l : List Val} {xs : List V}, Reps K ι n H l xs → xs.length = l.length
  | [], _, h => by rw [show _ = [] from h]; rfl
  | _ :: _, _, ⟨y, ys, h1, _, h3⟩ => by rw [h1]; exact congrArg Nat.succ (Reps.length h3)
theorem Reps.get : ∀ {l : List Val} {xs : List V} {i : Nat} {v : Val}, Reps K ι n H l xs → l[i]? = some v → ∃ x, xs[i]? = some x ∧ Rep K ι n H v x
  | [], _, _, _, _, e => by simp at e
  | w :: l, _, 0, v, ⟨y, ys, h1, h2, _⟩, e => by
    rw [List.getElem?_cons_zero] at e
    cases e
    exact ⟨y, by rw [h1]; rfl, h2⟩
  | w :: l, _, i + 1, v, ⟨y, ys, h1, _, h3⟩, e => by
    rw [List.getElem?_cons_succ] at e
    obtain ⟨x, e1, e2⟩ := Reps.get h3 e
    exact ⟨x, by rw [h1, List.getElem?_cons_succ]; exact e1, e2⟩
theorem Reps.append : ∀ {l m : List Val} {xs ys : List V}, Reps K ι n H l xs → Reps K ι n H m ys → Reps K ι n H (l ++ m) (xs ++ ys)
  | [], _, _, _, h, h' => by rw [show _ = [] from h]; exact h'
  | _ :: _, _, _, _, ⟨y, ys, h1, h2, h3⟩, h' => by rw [h1]; exact ⟨y, ys ++ _, rfl, h2, Reps.append h3 h'⟩
theorem Reps.one {v : Val} {x : V} (h : Rep K ι n H v x) : Reps K ι n H [v] [x] := ⟨x, [], rfl, h, rfl⟩
theorem Reps.take : ∀ {l : List Val} {xs : List V} (k : Nat), Reps K ι n H l xs → Reps K ι n H (l.take k) (xs.take k)
  | [], _, k, h => by rw [show _ = [] from h]; cases k <;> exact rfl
  | _ :: _, _, 0, _ => rfl
  | _ :: _, _, k + 1, ⟨y, ys, h1, h2, h3⟩ => by rw [h1]; exact ⟨y, ys.take k, rfl, h2, Reps.take k h3⟩
theorem Reps.drop : ∀ {l : List Val} {xs : List V} (k : Nat), Reps K ι n H l xs → Reps K ι n H (l.drop k) (xs.drop k)
  | [], _, k, h => by rw [show _ = [] from h]; cases k <;> exact rfl
  | _ :: _, _, 0, h => h
  | _ :: _, _, k + 1, ⟨y, ys, h1, _, h3⟩ => by rw [h1]; exact Reps.drop k h3
theorem Reps.set {v : Val} {x : V} (r : Rep K ι n H v x) : ∀ {l : List Val} {xs : List V} (k : Nat), Reps K ι n H l xs → Reps K ι n H (l.set k v) (xs.set k x)
  | [], _, k, h => by rw [show _ = [] from h]; cases k <;> exact rfl
  | _ :: _, _, 0, ⟨y, ys, h1, _, h3⟩ => by rw [h1]; exact ⟨x, ys, rfl, r, h3⟩
  | _ :: _, _, k + 1, ⟨y, ys, h1, h2, h3⟩ => by rw [h1]; exact ⟨y, ys.set k x, rfl, h2, Reps.set r k h3⟩
theorem Reps.dropLast : ∀ {l : List Val} {xs : List V}, Reps K ι n H l xs → Reps K ι n H l.dropLast xs.dropLast := fun {l xs} h => by
  rw [List.dropLast_eq_take, List.dropLast_eq_take, h.length]
  exact h.take _
theorem Reps.cons_inv {v : Val} {l : List Val} {xs : List V} (h : Reps K ι n H (v :: l) xs) : ∃ y ys, xs = y :: ys ∧ Rep K ι n H v y ∧ Reps K ι n H l ys := h
theorem KReps.keys : ∀ {l : List (Ky × Val)} {xs : List (Key × V)}, KReps K ι n H l xs → xs.map (·.1) = l.map fun q => kyOf q.1
  | [], _, h => by rw [show _ = [] from h]; rfl
  | q :: _, _, ⟨y, ys, h1, _, h3⟩ => by rw [h1, List.map_cons, List.map_cons, KReps.keys h3]
theorem KReps.length {l : List (Ky × Val)} {xs : List (Key × V)} (h : KReps K ι n H l xs) : xs.length = l.length := by
  have e := congrArg List.length h.keys
  simpa using e
theorem FReps.length : ∀ {fs : List Str} {l : List Val} {xs : List (Str × V)}, FReps K ι n H fs l xs → xs.length = l.length ∧ l.length ≤ fs.length
  | [], [], _, h => by rw [show _ = [] from h]; exact ⟨rfl, Nat.le_refl _⟩
  | _ :: _, [], _, h => by rw [show _ = [] from h]; exact ⟨rfl, Nat.zero_le _⟩
  | [], _ :: _, _, h => h.elim
  | _ :: _, _ :: _, _, ⟨y, ys, h1, _, h3⟩ => by
    rw [h1]
    exact ⟨congrArg Nat.succ (FReps.length h3).1, Nat.succ_le_succ (FReps.length h3).2⟩
theorem FReps.mem : ∀ {fs : List Str} {l : List Val} {xs : List (Str × V)} {g : Str} {y : V}, FReps K ι n H fs l xs → (g, y) ∈ xs → g ∈ fs
  | [], [], _, _, _, h, m => by rw [show _ = [] from h] at m; cases m
  | _ :: _, [], _, _, _, h, m => by rw [show _ = [] from h] at m; cases m
  | [], _ :: _, _, _, _, h, _ => h.elim
  | f :: fs, _ :: _, _, g, z, ⟨y, ys, h1, _, h3⟩, m => by
    rw [h1] at m
    rcases List.mem_cons.mp m with e | m
    · cases e
      exact List.mem_cons_self ..
    · exact List.mem_cons_of_mem _ (FReps.mem h3 m)
/-- the field at the place p -/
theorem FReps.look : ∀ {fs : List Str} {l : List Val} {xs : List (Str × V)} {p : Nat} {f : Str} {v : Val}, FReps K ι n H fs l xs → fs.Nodup → fs[p]? = some f → l[p]? = some v → ∃ y, xs.lookup f = some y ∧ Rep K ι n H v y
  | _, [], _, _, _, _, _, _, _, e => by simp at e
  | [], _ :: _, _, _, _, _, h, _, _, _ => h.elim
  | g :: fs, w :: l, _, 0, f, v, ⟨y, ys, h1, h2, h3⟩, _, e1, e2 => by
    rw [List.getElem?_cons_zero] at e1 e2
    cases e1
    cases e2
    rw [h1]
    exact ⟨y, by rw [List.lookup_cons, beq_self_eq_true], h2⟩
  | g :: fs, w :: l, _, p + 1, f, v, ⟨y, ys, h1, h2, h3⟩, nd, e1, e2 => by
    rw [List.getElem?_cons_succ] at e1 e2
    obtain ⟨n1, n2⟩ := List.nodup_cons.mp nd
    have ne : (f == g) = false := beq_false_of_ne fun q => n1 (by rw [← q]; exact List.mem_of_getElem? e1)
    obtain ⟨x, q1, q2⟩ := FReps.look h3 n2 e1 e2
    rw [h1]
    exact ⟨x, by rw [List.lookup_cons, ne]; exact q1, q2⟩
theorem FReps.none : ∀ {fs : List Str} {l : List Val} {xs : List (Str × V)} {f : Str}, FReps K ι n H fs l xs → ¬ f ∈ fs → xs.lookup f = none
  | [], [], _, _, h, _ => by rw [show _ = [] from h]; rfl
  | _ :: _, [], _, _, h, _ => by rw [show _ = [] from h]; rfl
  | [], _ :: _, _, _, h, _ => h.elim
  | g :: fs, w :: l, _, f, ⟨y, ys, h1, h2, h3⟩, nf => by
    have ne : (f == g) = false := beq_false_of_ne fun q => nf (by rw [q]; exact List.mem_cons_self ..)
    rw [h1, List.lookup_cons, ne]
    exact FReps.none h3 fun q => nf (List.mem_cons_of_mem _ q)
/-- the field at the place p is given a value -/
theorem FReps.put {v : Val} {y : V} (r : Rep K ι n H v y) : ∀ {fs : List Str} {l : List Val} {xs : List (Str × V)} {p : Nat} {f : Str}, FReps K ι n H fs l xs → fs.Nodup → fs[p]? = some f → p ≤ l.length →
    FReps K ι n H fs (if p < l.length then l.set p v else l ++ [v]) (putF f y xs)
  | [], [], _, p, f, _, _, e, _ => by simp at e
  | [], _ :: _, _, _, _, h, _, _, _ => h.elim
  | g :: fs, [], _, p, f, h, _, e, hp => by
    have h0 : p = 0 := Nat.le_zero.mp hp
    subst h0
    rw [List.getElem?_cons_zero] at e
    cases e
    rw [show _ = [] from h, if_neg (show ¬ 0 < ([] : List Val).length from Nat.lt_irrefl _)]
    exact ⟨y, [], rfl, r, by cases fs <;> exact rfl⟩
  | g :: fs, w :: l, _, 0, f, ⟨z, zs, h1, h2, h3⟩, nd, e, hp => by
    rw [List.getElem?_cons_zero] at e
    cases e
    rw [h1, if_pos (show 0 < (w :: l).length from Nat.succ_pos _)]
    refine ⟨y, zs, ?_, r, h3⟩
    show (if g = g then _ else _) = _
    rw [if_pos rfl]
  | g :: fs, w :: l, _, p + 1, f, ⟨z, zs, h1, h2, h3⟩, nd, e, hp => by
    rw [List.getElem?_cons_succ] at e
    obtain ⟨n1, n2⟩ := List.nodup_cons.mp nd
    have ne : ¬ g = f := fun q => n1 (by rw [q]; exact List.mem_of_getElem? e)
    have ih := FReps.put r h3 n2 e (Nat.le_of_succ_le_succ hp)
    rw [h1]
    have e2 : putF f y ((g, z) :: zs) = (g, z) :: putF f y zs := by
      show (if g = f then _ else (g, z) :: putF f y zs) = _
      rw [if_neg ne]
    rw [e2]
    by_cases hq : p < l.length
    · rw [if_pos hq] at ih
      rw [if_pos (show p + 1 < (w :: l).length from Nat.succ_lt_succ hq)]
      exact ⟨z, _, rfl, h2, ih⟩
    · rw [if_neg hq] at ih
      rw [if_neg (show ¬ p + 1 < (w :: l).length from fun q => hq (Nat.lt_of_succ_lt_succ q))]
      exact ⟨z, _, rfl, h2, ih⟩
theorem ORep.ext0 {o : Ob} {a : Addr} (e : Ext0 K ι n H ι' n' H') (hl : ∀ u, H a = some u → H' a = some u) (h : ORep K ι n H o a) : ORep K ι' n' H' o a := by
  cases o with
  | lst l =>
    obtain ⟨xs, h1, h2⟩ := h
    exact ⟨xs, hl _ h1, h2.ext0 e⟩
  | dic kvs =>
    obtain ⟨xs, h1, h2⟩ := h
    exact ⟨xs, hl _ h1, h2.ext0 e⟩
  | lok kvs =>
    obtain ⟨o, xs, h1, h2⟩ := h
    exact ⟨o, xs, hl _ h1, h2.ext0 e⟩
  | ins c fs =>
    obtain ⟨k, dx, xs, h1, h2⟩ := h
    exact ⟨k, dx, xs, hl _ h1, h2.ext0 e⟩
theorem ORep.ext {o : Ob} {a : Addr} (e : Ext K ι n H ι' n' H') (hl : ∀ u, H a = some u → H' a = some u) (h : ORep K ι n H o a) : ORep K ι' n' H' o a := h.ext0 e.e0 hl
/-- what an object of the store may stand as -/
def Mutl : HO → Prop
  | .lst _ => True
  | .dK _ => True
  | .ins _ _ _ => True
  | _ => False
def Ob.free : Ob → Bool
  | .lok _ => false
  | _ => true
theorem ORep.there {o : Ob} {a : Addr} (h : ORep K ι n H o a) : ∃ u, H a = some u ∧ (o.free = true → Mutl u) := by
  cases o with
  | lst l =>
    obtain ⟨xs, h1, h2⟩ := h
    exact ⟨_, h1, fun _ => trivial⟩
  | dic kvs =>
    obtain ⟨xs, h1, h2⟩ := h
    exact ⟨_, h1, fun _ => trivial⟩
  | lok kvs =>
    obtain ⟨o, xs, h1, h2⟩ := h
    exact ⟨_, h1, fun h => by cases h⟩
  | ins c fs =>
    obtain ⟨k, dx, xs, h1, h2⟩ := h
    exact ⟨_, h1, fun _ => trivial⟩
end

/-! ### one step of the heap -/
section
variable {K : PySem.W.Frag} {ι : Vw} {n : Nat} {G : Store} {H : Hp}
/-- p is new or holds what may change -/
inductive Free (ι : Vw) (n : Nat) (H : Hp) (p : Addr) : Prop where
  | fresh (h : H p = none)
  | old (i : Nat) (hi : i < n) (e : ι i = p) (m : ι.M p) (u : HO) (h : H p = some u) (mu : Mutl u)
theorem Free.of {p : Addr} (h : Free ι n H p) : ∀ u, H p = some u → Mutl u := fun u e => by
  cases h with
  | fresh h => rw [h] at e; cases e
  | old i hi e0 m v h mu => rw [h] at e; cases e; exact mu
theorem Free.ne {a p : Addr} {u : HO} (h : Free ι n H p) (ha : H a = some u) (hm : ¬ ι.M a) : a ≠ p := fun e => by
  subst e
  cases h with
  | fresh h => rw [h] at ha; cases ha
  | old i hi e0 m v h mu => exact hm m
theorem SqT.updT {a p : Addr} {o : HO} {xs : List V} (hp : Free ι n H p) (h : SqT K H a xs) : SqT K (L2.upd H p o) a xs := by
  rcases h with h | h
  · refine .inl ?_
    rcases h with h | ⟨z, h⟩
    · have ne : a ≠ p := fun e => by rw [e] at h; exact hp.of _ h
      exact .inl (by rw [upd_ne ne]; exact h)
    · have ne : a ≠ p := fun e => by rw [e] at h; exact hp.of _ h
      exact .inr ⟨z, by rw [upd_ne ne]; exact h⟩
  · exact .inr h
theorem frz_upd {p : Addr} {o : HO} (hp : Free ι n H p) : ∀ a z u, H a = some (.frz z u) → (upd H p o) a = some (.frz z u) := fun a z u h => by
  have ne : a ≠ p := fun e => by rw [e] at h; exact hp.of _ h
  rw [upd_ne ne]
  exact h
theorem SqF.updF {a p : Addr} {o : HO} {xs : List V} (hp : Free ι n H p) (h : SqF ι.M H a xs) : SqF ι.M (L2.upd H p o) a xs := ⟨by rw [upd_ne (hp.ne h.1 h.2)]; exact h.1, h.2⟩
theorem DcF.updF {a p : Addr} {o : HO} {xs : List (Key × V)} (hp : Free ι n H p) (h : DcF ι.M H a xs) : DcF ι.M (L2.upd H p o) a xs := by
  obtain ⟨h | ⟨z, h⟩, hm⟩ := h
  · exact ⟨.inl (by rw [upd_ne (hp.ne h hm)]; exact h), hm⟩
  · exact ⟨.inr ⟨z, frz_upd hp _ _ _ h⟩, hm⟩
theorem Ext.updE {p : Addr} {o : HO} (hp : Free ι n H p) : Ext K ι n H ι n (upd H p o) := ⟨Nat.le_refl _, fun _ _ => rfl, fun _ _ h => SqT.updT hp h, fun _ _ h => SqF.updF hp h, fun _ _ h => DcF.updF hp h, frz_upd hp, fun a u h1 h2 h3 => by
  refine ⟨?_, h1, h2⟩
  have ne : a ≠ p := fun e => by
    subst e
    cases hp with
    | fresh h => rw [h] at h3; cases h3
    | old i hi e0 m v h mu => exact h2 i hi e0
  rw [upd_ne ne]
  exact h3⟩
theorem Sim.fr {i : Nat} {o : Ob} {u : HO} (S : Sim K ι G H) (hi : G[i]? = some o) (h : H (ι i) = some u) (m : Mutl u) : Free ι G.length H (ι i) :=
  .old i (List.getElem?_eq_some_iff.mp hi).1 rfl (S.mu i (List.getElem?_eq_some_iff.mp hi).1) u h m
theorem dom_upd {p : Addr} {o : HO} (h : ∀ a, ι.M a → ∃ u, H a = some u) : ∀ a, ι.M a → ∃ u, (upd H p o) a = some u := fun a m => by
  by_cases e : a = p
  · subst e
    exact ⟨o, upd_same⟩
  · rw [upd_ne e]
    exact h a m
/-- something new that the store does not hold -/
theorem Sim.junk {p : Addr} {u : HO} (S : Sim K ι G H) (hp : H p = none) : Sim K ι G (upd H p u) :=
  ⟨S.inj, S.mu, dom_upd S.dom, fun i o e => (S.obj i o e).ext (Ext.updE (.fresh hp)) fun v hv => by rw [upd_ne (ne_of_none hv hp)]; exact hv⟩
theorem Sim.nm {p : Addr} (S : Sim K ι G H) (hp : H p = none) : ¬ ι.M p := fun m => by
  obtain ⟨u, h⟩ := S.dom p m
  rw [hp] at h
  cases h
def into (ι : Vw) (n : Nat) (p : Addr) : Vw := ⟨fun i => if i = n then p else ι i, fun a => ι.M a ∨ a = p⟩
theorem into_eq {p : Addr} : into ι n p n = p := if_pos rfl
theorem into_lt {p : Addr} {i : Nat} (h : i < n) : into ι n p i = ι i := if_neg (Nat.ne_of_lt h)
theorem into_nm {a p : Addr} (h : ¬ ι.M a) (ne : a ≠ p) : ¬ (into ι n p).M a := fun m => m.elim h ne
/-- a new object of the store -/
theorem Ext.push {p : Addr} {u : HO} (hp : H p = none) : Ext K ι n H (into ι n p) (n + 1) (upd H p u) :=
  ⟨Nat.le_succ _, fun _ h => into_lt h, fun _ _ h => SqT.updT (ι := ι) (n := n) (.fresh hp) h, fun a xs h => by
    have ne := ne_of_none h.1 hp
    exact ⟨by rw [upd_ne ne]; exact h.1, into_nm h.2 ne⟩, fun a xs h => by
    obtain ⟨h | ⟨z, h⟩, hm⟩ := h
    · have ne := ne_of_none h hp
      exact ⟨.inl (by rw [upd_ne ne]; exact h), into_nm hm ne⟩
    · have ne := ne_of_none h hp
      exact ⟨.inr ⟨z, by rw [upd_ne ne]; exact h⟩, into_nm hm ne⟩, frz_upd (ι := ι) (n := n) (.fresh hp), fun a v h1 h2 h3 => by
    have ne := ne_of_none h3 hp
    refine ⟨by rw [upd_ne ne]; exact h3, .inl h1, fun i hi e => ?_⟩
    by_cases h : i = n
    · subst h
      rw [into_eq] at e
      exact ne e.symm
    · have hi' : i < n := by omega
      rw [into_lt hi'] at e
      exact h2 i hi' e⟩
theorem Sim.push {p : Addr} {u : HO} {o : Ob} (S : Sim K ι G H) (hp : H p = none) (ho : ORep K (into ι G.length p) (G.length + 1) (upd H p u) o p) : Sim K (into ι G.length p) (G ++ [o]) (upd H p u) := by
  have there : ∀ i, i < G.length → ∃ v, H (ι i) = some v := fun i hi => by
    obtain ⟨v, h, _⟩ := (S.obj i _ (List.getElem?_eq_getElem hi)).there
    exact ⟨v, h⟩
  have hne : ∀ i, i < G.length → ι i ≠ p := fun i hi e => by
    obtain ⟨v, h⟩ := there i hi
    rw [e, hp] at h
    cases h
  refine ⟨fun i j hi hj e => ?_, fun i hi => ?_, fun a m => ?_, fun i o' e => ?_⟩
  rotate_left
  · rw [List.length_append, List.length_singleton] at hi
    by_cases h1 : i = G.length
    · subst h1
      exact .inr into_eq
    · have hi' : i < G.length := by omega
      rw [into_lt hi']
      exact .inl (S.mu i hi')
  · rcases m with m | m
    · exact dom_upd S.dom a m
    · rw [m]
      exact ⟨u, upd_same⟩
  rotate_right
  · rw [List.length_append, List.length_singleton] at hi hj
    by_cases h1 : i = G.length
    · by_cases h2 : j = G.length
      · rw [h1, h2]
      · have hj' : j < G.length := by omega
        rw [h1, into_eq, into_lt hj'] at e
        exact absurd e.symm (hne j hj')
    · have hi' : i < G.length := by omega
      by_cases h2 : j = G.length
      · rw [h2, into_eq, into_lt hi'] at e
        exact absurd e (hne i hi')
      · have hj' : j < G.length := by omega
        rw [into_lt hi', into_lt hj'] at e
        exact S.inj i j hi' hj' e
  · rw [List.length_append, List.length_singleton]
    by_cases h1 : i < G.length
    · rw [List.getElem?_append_left h1] at e
      rw [into_lt h1]
      exact (S.obj i o' e).ext (Ext.push hp) fun v hv => by rw [upd_ne (hne i h1)]; exact hv
    · have h2 : i = G.length := by
        have := (List.getElem?_eq_some_iff.mp e).1
        rw [List.length_append, List.length_singleton] at this
        omega
      subst h2
      rw [List.getElem?_append_right (Nat.le_refl _), Nat.sub_self] at e
      cases e
      rw [into_eq]
      exact ho
/-- an object is changed -/
theorem Sim.set {i : Nat} {u : HO} {o o' : Ob} (S : Sim K ι G H) (hi : G[i]? = some o') (hf : o'.free = true) (ho : ORep K ι G.length (upd H (ι i) u) o (ι i)) : Sim K ι (G.set i o) (upd H (ι i) u) ∧ Ext K ι G.length H ι (G.set i o).length (upd H (ι i) u) := by
  obtain ⟨v, hv, mv⟩ := (S.obj i o' hi).there
  have hlt : i < G.length := (List.getElem?_eq_some_iff.mp hi).1
  have x : Ext K ι G.length H ι G.length (upd H (ι i) u) := Ext.updE (S.fr hi hv (mv hf))
  refine ⟨⟨fun a b ha hb => by rw [List.length_set] at ha hb; exact S.inj a b ha hb, fun j hj => S.mu j (by rw [List.length_set] at hj; exact hj), dom_upd S.dom, fun j w e => ?_⟩, by rw [List.length_set]; exact x⟩
  rw [List.length_set]
  by_cases hj : j = i
  · subst hj
    rw [List.getElem?_set_self hlt] at e
    cases e
    exact ho
  · rw [List.getElem?_set_ne (Ne.symm hj)] at e
    have hjl : j < G.length := (List.getElem?_eq_some_iff.mp e).1
    exact (S.obj j w e).ext x fun z hz => by rw [upd_ne fun q => hj (S.inj j i hjl hlt q)]; exact hz
end

/-! ### the frame's names -/
section
variable (K : PySem.W.Frag) (ι : Vw) (n : Nat) (H : Hp)
def Slots : Env1 → L2.St → Prop
  | [], σ => σ = []
  | v :: ρ, σ => ∃ y ys, σ = y :: ys ∧ (∀ w, v = some w → ∃ x, y = some x ∧ Rep K ι n H w x) ∧ Slots ρ ys
end
section
variable {K : PySem.W.Frag} {ι ι' : Vw} {n n' : Nat} {H H' : Hp}
theorem Slots.ext0 (e : Ext0 K ι n H ι' n' H') : ∀ {ρ : Env1} {σ : L2.St}, Slots K ι n H ρ σ → Slots K ι' n' H' ρ σ
  | [], _, h => h
  | _ :: _, _, ⟨y, ys, h1, h2, h3⟩ => ⟨y, ys, h1, fun w hw => let ⟨x, e1, e2⟩ := h2 w hw; ⟨x, e1, e2.ext0 e⟩, Slots.ext0 e h3⟩
theorem Slots.ext (e : Ext K ι n H ι' n' H') {ρ : Env1} {σ : L2.St} (h : Slots K ι n H ρ σ) : Slots K ι' n' H' ρ σ := h.ext0 e.e0
theorem Slots.get : ∀ {ρ : Env1} {σ : L2.St} {i : Nat} {v : Val}, Slots K ι n H ρ σ → ρ[i]? = some (some v) → ∃ x, σ[i]? = some (some x) ∧ Rep K ι n H v x
  | [], _, _, _, _, e => by simp at e
  | w :: l, _, 0, v, ⟨y, ys, h1, h2, _⟩, e => by
    rw [List.getElem?_cons_zero] at e
    obtain ⟨x, e1, e2⟩ := h2 v (Option.some.inj e)
    exact ⟨x, by rw [h1, e1]; rfl, e2⟩
  | w :: l, _, i + 1, v, ⟨y, ys, h1, _, h3⟩, e => by
    rw [List.getElem?_cons_succ] at e
    obtain ⟨x, e1, e2⟩ := Slots.get h3 e
    exact ⟨x, by rw [h1, List.getElem?_cons_succ]; exact e1, e2⟩
theorem Slots.set {v : Val} {x : V} (r : Rep K ι n H v x) : ∀ {ρ : Env1} {σ : L2.St} (i : Nat), Slots K ι n H ρ σ → Slots K ι n H (ρ.set i (some v)) (σ.set i (some x))
  | [], _, i, h => by rw [show _ = [] from h]; cases i <;> exact rfl
  | _ :: _, _, 0, ⟨y, ys, h1, _, h3⟩ => by rw [h1]; exact ⟨some x, ys, rfl, fun w hw => ⟨x, rfl, by cases hw; exact r⟩, h3⟩
  | _ :: _, _, i + 1, ⟨y, ys, h1, h2, h3⟩ => by rw [h1]; exact ⟨y, ys.set i (some x), rfl, h2, Slots.set r i h3⟩
/-- forgetting a name -/
theorem Slots.drop : ∀ {ρ : Env1} {σ : L2.St} (i : Nat) (z : Option V), Slots K ι n H ρ σ → Slots K ι n H (ρ.set i none) (σ.set i z)
  | [], _, i, _, h => by rw [show _ = [] from h]; cases i <;> exact rfl
  | _ :: _, _, 0, z, ⟨y, ys, h1, _, h3⟩ => by rw [h1]; exact ⟨z, ys, rfl, fun w hw => (by cases hw), h3⟩
  | _ :: _, _, i + 1, z, ⟨y, ys, h1, h2, h3⟩ => by rw [h1]; exact ⟨y, ys.set i z, rfl, h2, Slots.drop i z h3⟩
theorem Slots.length : ∀ {ρ : Env1} {σ : L2.St}, Slots K ι n H ρ σ → σ.length = ρ.length
  | [], _, h => by rw [show _ = [] from h]; rfl
  | _ :: _, _, ⟨y, ys, h1, _, h3⟩ => by rw [h1]; exact congrArg Nat.succ (Slots.length h3)
end

/-! ### what is wanted behind a run -/
section
variable (K : PySem.W.Frag) (E : XK) (ι : Vw) (n : Nat) (H : Hp)
def Post {α : Type} (r : Res α) (k : Vw → Store → Hp → α → Prop) : Prop := match r with
  | .ok v G' => ∀ ι' H', Ext K ι n H ι' G'.length H' → Sim K ι' G' H' → k ι' G' H' v
  | .exc c G' => ∀ ι' H', Ext K ι n H ι' G'.length H' → Sim K ι' G' H' → E (.ref (He.ga K c)) none H'
  | .bad => False
end
section
variable {K : PySem.W.Frag} {E : XK} {ι ι' : Vw} {n n' : Nat} {H H' : Hp} {α β : Type}
theorem Post.mono {r : Res α} {k k' : Vw → Store → Hp → α → Prop} (h : Post K E ι n H r k) (m : ∀ ι' G' H' v, Ext K ι n H ι' G'.length H' → Sim K ι' G' H' → k ι' G' H' v → k' ι' G' H' v) : Post K E ι n H r k' := by
  cases r with
  | ok v G' => exact fun ι' H' e s => m ι' G' H' v e s (h ι' H' e s)
  | exc c G' => exact h
  | bad => exact h
theorem Post.ext {r : Res α} {k : Vw → Store → Hp → α → Prop} (x : Ext K ι n H ι' n' H') (h : Post K E ι n H r k) : Post K E ι' n' H' r k := by
  cases r with
  | ok v G' => exact fun ι2 H2 e s => h ι2 H2 (x.trans e) s
  | exc c G' => exact fun ι2 H2 e s => h ι2 H2 (x.trans e) s
  | bad => exact h
theorem Post.bind {r : Res α} {f : α → Store → Res β} {k : Vw → Store → Hp → β → Prop} (h : Post K E ι n H (r.bind f) k) : Post K E ι n H r fun ι' G' H' v => Post K E ι' G'.length H' (f v G') k := by
  cases r with
  | ok v G' => exact fun ι' H' e s => Post.ext e h
  | exc c G' => exact h
  | bad => exact h
theorem Post.here {v : α} {G : Store} {k : Vw → Store → Hp → α → Prop} (S : Sim K ι G H) (h : Post K E ι G.length H (.ok v G) k) : k ι G H v := h ι H .refl S
end
/-- the reading of an expression, a test, arguments -/
def tE (K : PySem.W.Frag) (E : XK) (m : EM) : TE := fun σ H Q => ∃ ι G ρ, Sim K ι G H ∧ Slots K ι G.length H ρ σ ∧ Post K E ι G.length H (m ρ G) fun ι' G' H' v => ∀ x, Rep K ι' G'.length H' v x → Q x H'
def tT (K : PySem.W.Frag) (E : XK) (m : TM) : TT := fun σ H Q => ∃ ι G ρ, Sim K ι G H ∧ Slots K ι G.length H ρ σ ∧ Post K E ι G.length H (m ρ G) fun ι' G' H' b => Q b H'
def tA (K : PySem.W.Frag) (E : XK) (m : AM) : TA := fun σ H Q => ∃ ι G ρ, Sim K ι G H ∧ Slots K ι G.length H ρ σ ∧ Post K E ι G.length H (m ρ G) fun ι' G' H' vs => ∀ xs, Reps K ι' G'.length H' vs xs → Q xs H'
abbrev RE (X : Cx) (E : XK) (e : Expr) (m : EM) : Prop := PE X e (tE X.K E m)
abbrev RT (X : Cx) (E : XK) (e : Expr) (m : TM) : Prop := PT X e (tT X.K E m)
abbrev RW (X : Cx) (E : XK) (e : Expr) (m : TM) : Prop := PW X e (tT X.K E m)
abbrev RA (X : Cx) (E : XK) (es : List Expr) (m : AM) : Prop := PA X es (tA X.K E m)

/-! ### weaker readings -/
section
variable {X : Cx} {e : Expr} {es : List Expr} {st : Stmt} {sts : List Stmt}
theorem pe_weak {t t' : TE} (h : PE X e t) (w : ∀ σ H Q, t' σ H Q → t σ H Q) : PE X e t' := ⟨fun pins s σ H Q I q => h.run pins s σ H Q I (w σ H Q q)⟩
theorem pt_weak {t t' : TT} (h : PT X e t) (w : ∀ σ H Q, t' σ H Q → t σ H Q) : PT X e t' := ⟨fun pins s σ H Q I q => h.run pins s σ H Q I (w σ H Q q)⟩
theorem pw_weak {t t' : TT} (h : PW X e t) (w : ∀ σ H Q, t' σ H Q → t σ H Q) : PW X e t' := ⟨fun wh pins s σ H Q I q => h.run wh pins s σ H Q I (w σ H Q q)⟩
theorem pa_weak {t t' : TA} (h : PA X es t) (w : ∀ σ H Q, t' σ H Q → t σ H Q) : PA X es t' := ⟨fun pos pins s σ H Q I q => h.run pos pins s σ H Q I (w σ H Q q)⟩
theorem ps_weak {t t' : TS} (h : PS X st t) (w : ∀ D σ H, t' D σ H → t D σ H) : PS X st t' := ⟨fun pins s σ H D I q => h.run pins s σ H D I (w D σ H q)⟩
theorem pss_weak {t t' : TS} (h : PSs X sts t) (w : ∀ D σ H, t' D σ H → t D σ H) : PSs X sts t' := ⟨fun pins s σ H D I q => h.run pins s σ H D I (w D σ H q)⟩
end

/-! ### names, constants, two-place operators -/
def eVar (i : Nat) : EM := fun ρ G => match ρ[i]? with
  | some (some v) => .ok v G
  | _ => .bad
def eC (v : Val) : EM := fun _ G => .ok v G
/-- an operation on two values -/
abbrev F2 := Val → Val → Store → Res Val
def eOp (f : F2) (a b : EM) : EM := fun ρ G => (a ρ G).bind fun v G1 => (b ρ G1).bind fun u G2 => f v u G2
/-- the rule r on the heap says what f says on the store -/
def OpS (K : PySem.W.Frag) (E : XK) (r : R2) (f : F2) : Prop := ∀ (ι : Vw) (G : Store) (H : Hp) (v u : Val) (x y : V) (Q : VK), Sim K ι G H → Rep K ι G.length H v x → Rep K ι G.length H u y →
  Post K E ι G.length H (f v u G) (fun ι' G' H' w => ∀ z, Rep K ι' G'.length H' w z → Q z H') → r x y H Q
section
variable {X : Cx} {E : XK} {a b : Expr} {ma mb : EM} {pos : Pos}
theorem re_var {i : Nat} {x : Str} (hN : X.N[i]? = some x) (hv : Vis X.env.scope x) (hd : (x == ("__debug__" : Str)) = false := by decide) (hcd : (x == ("__classdict__" : Str)) = false := by decide) : RE X E (.Name x pos) (eVar i) := by
  refine pe_weak (pe_var hN hv hd hcd) fun σ H Q ⟨ι, G, ρ, S, sl, p⟩ => ?_
  unfold eVar at p
  cases e : ρ[i]? with
  | none => rw [e] at p; exact p.elim
  | some o =>
    cases o with
    | none => rw [e] at p; exact p.elim
    | some v =>
      rw [e] at p
      obtain ⟨x, e1, r⟩ := sl.get e
      exact ⟨x, e1, p.here S x r⟩
theorem re_int {i j} : RE X E (.Constant (.int i) j pos) (eC (.int i)) := pe_weak pe_int fun σ H Q ⟨ι, G, ρ, S, sl, p⟩ => p.here S _ rfl
theorem re_bl {i j} : RE X E (.Constant (.bool i) j pos) (eC (.bl i)) := pe_weak pe_bl fun σ H Q ⟨ι, G, ρ, S, sl, p⟩ => p.here S _ rfl
theorem re_non {j} : RE X E (.Constant .none j pos) (eC .non) := pe_weak pe_non fun σ H Q ⟨ι, G, ρ, S, sl, p⟩ => p.here S _ rfl
theorem re_str {i j} {k : Nat} (h : nm k = i := by decide +kernel) : RE X E (.Constant (.str i) j pos) (eC (.str k)) := pe_weak pe_str fun σ H Q ⟨ι, G, ρ, S, sl, p⟩ => p.here S _ (by rw [← h]; exact rfl)
/-- two expressions, one behind the other -/
theorem two {σ : L2.St} {H : Hp} {f : Val → Val → Store → Res Val} {R : V → V → Hp → Prop} {Q : VK} (h : tE X.K E (eOp f ma mb) σ H Q)
    (hr : ∀ ι G H' v u x y, Sim X.K ι G H' → Rep X.K ι G.length H' v x → Rep X.K ι G.length H' u y → Post X.K E ι G.length H' (f v u G) (fun ι' G' H' w => ∀ z, Rep X.K ι' G'.length H' w z → Q z H') → R x y H') :
    tE X.K E ma σ H fun x H1 => tE X.K E mb σ H1 fun y H2 => R x y H2 := by
  obtain ⟨ι, G, ρ, S, sl, p⟩ := h
  refine ⟨ι, G, ρ, S, sl, (Post.bind p).mono fun ι1 G1 H1 v x1 S1 p1 x rx => ⟨ι1, G1, ρ, S1, sl.ext x1, (Post.bind p1).mono fun ι2 G2 H2 u x2 S2 p2 y ry => hr ι2 G2 H2 v u x y S2 (rx.ext x2) ry p2⟩⟩
theorem re_op {op : Operator} {r : R2} {f : F2} (ho : OpR X (binaryOp op) r) (hs : OpS X.K E r f) (ha : RE X E a ma) (hb : RE X E b mb) : RE X E (.BinOp a op b pos) (eOp f ma mb) :=
  pe_weak (pe_op ho ha hb) fun σ H Q h => two h fun ι G H' v u x y S rx ry p => hs ι G H' v u x y Q S rx ry p
theorem re_cmp {op : CmpOp} {r : R2} {f : F2} (ho : OpR X (compareOp op) r) (hs : OpS X.K E r f) (ha : RE X E a ma) (hb : RE X E b mb) (hm : behindInMarks op b = false) : RE X E (.Compare a [op] [b] pos) (eOp f ma mb) :=
  pe_weak (pe_cmpR ho ha hb hm) fun σ H Q h => two h fun ι G H' v u x y S rx ry p => hs ι G H' v u x y Q S rx ry p
def orF (f g : F2) : F2 := fun v u G => match f v u G with
  | .bad => g v u G
  | r => r
theorem OpS.or {r r' : R2} {f g : F2} (h : OpS X.K E r f) (h' : OpS X.K E r' g) : OpS X.K E (fun x y H Q => r x y H Q ∨ r' x y H Q) (orF f g) := by
  intro ι G H v u x y Q S rx ry p
  unfold orF at p
  cases e : f v u G with
  | bad =>
    rw [e] at p
    exact .inr (h' ι G H v u x y Q S rx ry p)
  | ok w G' =>
    rw [e] at p
    exact .inl (h ι G H v u x y Q S rx ry (by rw [e]; exact p))
  | exc c G' =>
    rw [e] at p
    exact .inl (h ι G H v u x y Q S rx ry (by rw [e]; exact p))
end
end R1

/-! R1b: operators on values: sums, products, equality, order, membership. -/
namespace R1
open PySem PySem.Spec PyProof.Rows L2

/-! ### ints -/
def fI (c : Int → Int → Bool) (g : Int → Int → Val) : F2 := fun v u G => match v, u with
  | .int i, .int j => if c i j = true then .ok (g i j) G else .bad
  | _, _ => .bad
/-- a plain value as it lies -/
def pv1 : Val → V
  | .bl b => .bl b
  | .int i => .int i
  | .str s => .str (nm s)
  | _ => .non
def plain1 : Val → Bool
  | .non => true
  | .bl _ => true
  | .int _ => true
  | .str _ => true
  | _ => false
section
variable {K : PySem.W.Frag} {E : XK} {ι : Vw} {n : Nat} {H : Hp}
theorem rep_plain {v : Val} {x : V} (h : plain1 v = true) : Rep K ι n H v x ↔ x = pv1 v := by
  cases v <;> first | rfl | cases h | exact Iff.rfl
theorem fI_inv {c : Int → Int → Bool} {g : Int → Int → Val} {v u : Val} {G : Store} {k : Vw → Store → Hp → Val → Prop} (h : Post K E ι n H (fI c g v u G) k) : ∃ i j, v = .int i ∧ u = .int j ∧ c i j = true ∧ Post K E ι n H (.ok (g i j) G) k := by
  unfold fI at h
  cases v with
  | int i =>
    cases u with
    | int j =>
      by_cases e : c i j = true
      · exact ⟨i, j, rfl, rfl, e, by simpa only [if_pos e] using h⟩
      · have h2 : Post K E ι n H (if c i j = true then Res.ok (g i j) G else Res.bad) k := h
        rw [if_neg e] at h2
        exact h2.elim
    | _ => exact h.elim
  | _ => exact h.elim
theorem opS_rI {C : Int → Int → Prop} {c : Int → Int → Bool} {g : Int → Int → V} {g' : Int → Int → Val} (hc : ∀ i j, c i j = true → C i j) (hg : ∀ i j, plain1 (g' i j) = true ∧ g i j = pv1 (g' i j)) : OpS K E (rI C g) (fI c g') := by
  intro ι G H v u x y Q S rx ry p
  obtain ⟨i, j, rfl, rfl, e, p⟩ := fI_inv p
  refine ⟨i, j, rx, ry, hc i j e, p.here S _ ?_⟩
  rw [(hg i j).2]
  exact (rep_plain (hg i j).1).mpr rfl
theorem opS_rI0 {g : Int → Int → V} {g' : Int → Int → Val} (hg : ∀ i j, plain1 (g' i j) = true ∧ g i j = pv1 (g' i j)) : OpS K E (rI0 g) (fI (fun _ _ => true) g') := by
  intro ι G H v u x y Q S rx ry p
  obtain ⟨i, j, rfl, rfl, e, p⟩ := fI_inv p
  refine ⟨i, j, rx, ry, p.here S _ ?_⟩
  rw [(hg i j).2]
  exact (rep_plain (hg i j).1).mpr rfl
end
abbrev tr2 : Int → Int → Bool := fun _ _ => true
def fSub : F2 := fI tr2 fun i j => .int (i - j)
def inRng (i : Int) : Bool := decide (-(2 ^ 64) < i) && decide (i < 2 ^ 64)
def fMulI : F2 := fI (fun i j => inRng i || inRng j) fun i j => .int (i * j)
def fDiv : F2 := fI (fun _ j => decide (0 < j) && decide (j < 1073741824)) fun i j => .int (i / j)
def fMod : F2 := fI (fun _ j => decide (0 < j)) fun i j => .int (i % j)
def fPow : F2 := fI (fun i j => decide (0 ≤ j) && (decide (j ≤ 1000000) && decide (i.natAbs < 2 ^ 64))) fun i j => .int (i ^ j.toNat)
def fAddI : F2 := fI tr2 fun i j => .int (i + j)
def fLt : F2 := fI tr2 fun i j => .bl (decide (i < j))
def fLe : F2 := fI tr2 fun i j => .bl (decide (i ≤ j))
def fGt : F2 := fI tr2 fun i j => .bl (decide (j < i))
def fGe : F2 := fI tr2 fun i j => .bl (decide (j ≤ i))
section
variable {K : PySem.W.Frag} {E : XK}
theorem s_sub : OpS K E (rI0 fun i j => .int (i - j)) fSub := opS_rI0 fun _ _ => ⟨rfl, rfl⟩
theorem s_addI : OpS K E (rI0 fun i j => .int (i + j)) fAddI := opS_rI0 fun _ _ => ⟨rfl, rfl⟩
theorem s_mulI : OpS K E (rI CMul fun i j => .int (i * j)) fMulI := opS_rI (fun i j h => by
  rcases (Bool.or_eq_true _ _).mp h with h | h
  · obtain ⟨a, b⟩ := Bool.and_eq_true_iff.mp h
    exact .inl ⟨of_decide_eq_true a, of_decide_eq_true b⟩
  · obtain ⟨a, b⟩ := Bool.and_eq_true_iff.mp h
    exact .inr ⟨of_decide_eq_true a, of_decide_eq_true b⟩) fun _ _ => ⟨rfl, rfl⟩
theorem s_div : OpS K E (rI CDiv fun i j => .int (i / j)) fDiv := opS_rI (fun i j h => by
  obtain ⟨a, b⟩ := Bool.and_eq_true_iff.mp h
  exact ⟨of_decide_eq_true a, of_decide_eq_true b⟩) fun _ _ => ⟨rfl, rfl⟩
theorem s_mod : OpS K E (rI (fun _ j => 0 < j) fun i j => .int (i % j)) fMod := opS_rI (fun i j h => of_decide_eq_true h) fun _ _ => ⟨rfl, rfl⟩
theorem s_pow : OpS K E (rI CPow fun i j => .int (i ^ j.toNat)) fPow := opS_rI (fun i j h => by
  obtain ⟨a, b⟩ := Bool.and_eq_true_iff.mp h
  obtain ⟨b, c⟩ := Bool.and_eq_true_iff.mp b
  exact ⟨of_decide_eq_true a, of_decide_eq_true b, of_decide_eq_true c⟩) fun _ _ => ⟨rfl, rfl⟩
theorem s_lt : OpS K E (rI0 fun i j => .bl (decide (i < j))) fLt := opS_rI0 fun _ _ => ⟨rfl, rfl⟩
theorem s_le : OpS K E (rI0 fun i j => .bl (decide (i ≤ j))) fLe := opS_rI0 fun _ _ => ⟨rfl, rfl⟩
theorem s_gt : OpS K E (rI0 fun i j => .bl (decide (j < i))) fGt := opS_rI0 fun _ _ => ⟨rfl, rfl⟩
theorem s_ge : OpS K E (rI0 fun i j => .bl (decide (j ≤ i))) fGe := opS_rI0 fun _ _ => ⟨rfl, rfl⟩
end

/-! ### lists, tuples: +, * -/
/-- a new object -/
def alloc (o : Ob) (G : Store) : Res Val := .ok (.obj G.length) (G ++ [o])
section
variable {K : PySem.W.Frag} {E : XK} {ι : Vw} {n : Nat} {G : Store} {H : Hp}
/-- a new list -/
theorem post_lst {l : List Val} {xs : List V} {Q : VK} (S : Sim K ι G H) (r : Reps K ι G.length H l xs) (p : Post K E ι G.length H (alloc (.lst l) G) (fun ι' G' H' w => ∀ z, Rep K ι' G'.length H' w z → Q z H')) :
    ∀ q, H q = none → Q (.ref q) (L2.upd H q (.lst xs)) := fun q hq => by
  have e : Ext K ι G.length H (into ι G.length q) (G ++ [Ob.lst l]).length (L2.upd H q (.lst xs)) := by
    rw [List.length_append, List.length_singleton]
    exact Ext.push hq
  have e1 : Ext K ι G.length H (into ι G.length q) (G.length + 1) (L2.upd H q (.lst xs)) := Ext.push hq
  refine p (into ι G.length q) _ e (S.push hq ⟨xs, upd_same, r.ext e1⟩) _ ⟨?_, ?_⟩
  · rw [List.length_append, List.length_singleton]
    exact Nat.lt_succ_self _
  · rw [into_eq]
/-- a new tuple -/
theorem post_tup {l : List Val} {xs : List V} {Q : VK} (S : Sim K ι G H) (r : Reps K ι G.length H l xs) (p : Post K E ι G.length H (.ok (.tup l) G) (fun ι' G' H' w => ∀ z, Rep K ι' G'.length H' w z → Q z H')) :
    ∀ q, H q = none → Q (.ref q) (L2.upd H q (.tup xs)) := fun q hq => by
  have e : Ext K ι G.length H ι G.length (L2.upd H q (.tup xs)) := Ext.updE (.fresh hq)
  exact p ι _ e (S.junk hq) _ ⟨q, xs, rfl, .of upd_same, r.ext e⟩
/-- a new list that is never changed -/
theorem post_fro {l : List Val} {xs : List V} {Q : VK} (S : Sim K ι G H) (r : Reps K ι G.length H l xs) (p : Post K E ι G.length H (.ok (.fro l) G) (fun ι' G' H' w => ∀ z, Rep K ι' G'.length H' w z → Q z H')) :
    ∀ q, H q = none → Q (.ref q) (L2.upd H q (.lst xs)) := fun q hq => by
  have e : Ext K ι G.length H ι G.length (L2.upd H q (.lst xs)) := Ext.updE (.fresh hq)
  exact p ι _ e (S.junk hq) _ ⟨q, xs, rfl, ⟨upd_same, S.nm hq⟩, r.ext e⟩
/-- a new list: it may change (false), it never does (true) -/
def mkL (z : Bool) (l : List Val) (G : Store) : Res Val := match z with
  | true => .ok (.fro l) G
  | false => alloc (.lst l) G
def mkD (z : Bool) (l : List (Ky × Val)) (G : Store) : Res Val := match z with
  | true => .ok (.frd l) G
  | false => alloc (.dic l) G
theorem post_mkL {z : Bool} {l : List Val} {xs : List V} {Q : VK} (S : Sim K ι G H) (r : Reps K ι G.length H l xs) (p : Post K E ι G.length H (mkL z l G) (fun ι' G' H' w => ∀ z, Rep K ι' G'.length H' w z → Q z H')) :
    ∀ q, H q = none → Q (.ref q) (L2.upd H q (.lst xs)) := by
  cases z with
  | true => exact post_fro S r p
  | false => exact post_lst S r p
/-- a new dict that is never changed -/
theorem post_frd {l : List (Ky × Val)} {xs : List (Key × V)} {Q : VK} (S : Sim K ι G H) (r : KReps K ι G.length H l xs) (p : Post K E ι G.length H (.ok (.frd l) G) (fun ι' G' H' w => ∀ z, Rep K ι' G'.length H' w z → Q z H')) :
    ∀ q, H q = none → Q (.ref q) (L2.upd H q (.dK xs)) := fun q hq => by
  have e : Ext K ι G.length H ι G.length (L2.upd H q (.dK xs)) := Ext.updE (.fresh hq)
  exact p ι _ e (S.junk hq) _ ⟨q, xs, rfl, ⟨.inl upd_same, S.nm hq⟩, r.ext e⟩
theorem Sim.lst {i : Nat} {l : List Val} (S : Sim K ι G H) (h : G[i]? = some (.lst l)) : ∃ xs, H (ι i) = some (.lst xs) ∧ Reps K ι G.length H l xs := S.obj i _ h
theorem Sim.dic {i : Nat} {l : List (Ky × Val)} (S : Sim K ι G H) (h : G[i]? = some (.dic l)) : ∃ xs, H (ι i) = some (.dK xs) ∧ KReps K ι G.length H l xs := S.obj i _ h
theorem Sim.ins {i : Nat} {c : Nat} {l : List Val} (S : Sim K ι G H) (h : G[i]? = some (.ins c l)) : ClsOk K c ∧ ∃ dx xs, H (ι i) = some (.ins (He.ga K (cname c)) dx xs) ∧ FReps K ι G.length H (cfields c) l xs := S.obj i _ h
end
/-- a list's items (not the script's) -/
def lstOf (G : Store) : Val → Option (List Val)
  | .fro l => some l
  | .obj i => match G[i]? with
    | some (.lst l) => some l
    | _ => none
  | _ => none
theorem lstOf_at {K : PySem.W.Frag} {ι : Vw} {G : Store} {H : Hp} {v : Val} {x : V} {l : List Val} (S : Sim K ι G H) (r : Rep K ι G.length H v x) (h : lstOf G v = some l) : ∃ a xs, x = .ref a ∧ H a = some (.lst xs) ∧ Reps K ι G.length H l xs := by
  unfold lstOf at h
  cases v with
  | fro m =>
    cases h
    obtain ⟨a, xs, e, h1, h2⟩ := r
    exact ⟨a, xs, e, h1.1, h2⟩
  | obj i =>
    dsimp only at h
    cases e0 : G[i]? with
    | none => rw [e0] at h; cases h
    | some o =>
      rw [e0] at h
      cases o with
      | lst m =>
        cases h
        obtain ⟨xs, h1, h2⟩ := S.lst e0
        exact ⟨ι i, xs, r.2, h1, h2⟩
      | _ => cases h
  | _ => cases h
def fCat (z : Bool) : F2 := fun v u G => match lstOf G v, lstOf G u with
  | some a, some b => if a.length + b.length ≤ sizeLine then mkL z (a ++ b) G else .bad
  | _, _ => .bad
def fCatT : F2 := fun v u G => match v, u with
  | .tup a, .tup b => if a.length + b.length ≤ sizeLine then .ok (.tup (a ++ b)) G else .bad
  | _, _ => .bad
def fRep (z : Bool) : F2 := fun v u G => match lstOf G v, u with
  | some a, .int k => if -(2 ^ 63) ≤ k ∧ k < 2 ^ 63 ∧ a.length * k.toNat ≤ sizeLine then mkL z (List.replicate k.toNat a).flatten G else .bad
  | _, _ => .bad
section
variable {K : PySem.W.Frag} {E : XK} {ι : Vw} {n : Nat} {H : Hp}
theorem Reps.replicate {l : List Val} {xs : List V} (r : Reps K ι n H l xs) : ∀ k : Nat, Reps K ι n H (List.replicate k l).flatten (List.replicate k xs).flatten
  | 0 => rfl
  | k + 1 => by
    rw [List.replicate_succ, List.replicate_succ, List.flatten_cons, List.flatten_cons]
    exact r.append (Reps.replicate r k)
theorem s_cat {z : Bool} : OpS K E rCat (fCat z) := by
  intro ι G H v u x y Q S rx ry p
  unfold fCat at p
  cases e1 : lstOf G v with
  | none => rw [e1] at p; exact p.elim
  | some a =>
    cases e2 : lstOf G u with
    | none => rw [e1, e2] at p; exact p.elim
    | some b =>
      rw [e1, e2] at p
      dsimp only at p
      by_cases hl : a.length + b.length ≤ sizeLine
      · rw [if_pos hl] at p
        obtain ⟨c, xs, ex, h1, r1⟩ := lstOf_at S rx e1
        obtain ⟨d, ys, ey, h2, r2⟩ := lstOf_at S ry e2
        exact ⟨c, d, xs, ys, ex, ey, h1, h2, by rw [r1.length, r2.length]; exact hl, post_mkL S (r1.append r2) p⟩
      · rw [if_neg hl] at p
        exact p.elim
theorem s_catT : OpS K E (rCatA K) fCatT := by
  intro ι G H v u x y Q S rx ry p
  unfold fCatT at p
  cases v with
  | tup a =>
    cases u with
    | tup b =>
      have p2 : Post K E ι G.length H (if a.length + b.length ≤ sizeLine then .ok (.tup (a ++ b)) G else .bad) (fun ι' G' H' w => ∀ z, Rep K ι' G'.length H' w z → Q z H') := p
      by_cases hl : a.length + b.length ≤ sizeLine
      · rw [if_pos hl] at p2
        obtain ⟨p1, xs, ex, h1, r1⟩ := rx
        obtain ⟨q1, ys, ey, h2, r2⟩ := ry
        refine ⟨p1, q1, xs, ys, ex, ey, h1, h2, by rw [r1.length, r2.length]; exact hl, fun e0 => ?_, fun e0 e1 => ?_, fun e0 e1 => post_tup S (r1.append r2) p2⟩
        · have : a = [] := List.eq_nil_of_length_eq_zero (by rw [← r1.length, e0]; rfl)
          subst this
          exact p2.here S _ ⟨q1, ys, rfl, h2, r2⟩
        · have : b = [] := List.eq_nil_of_length_eq_zero (by rw [← r2.length, e1]; rfl)
          subst this
          rw [List.append_nil] at p2
          exact p2.here S _ ⟨p1, xs, rfl, h1, r1⟩
      · rw [if_neg hl] at p2
        exact p2.elim
    | _ => exact p.elim
  | _ => exact p.elim
theorem s_rep {z : Bool} : OpS K E rRep (fRep z) := by
  intro ι G H v u x y Q S rx ry p
  unfold fRep at p
  cases e1 : lstOf G v with
  | none => rw [e1] at p; exact p.elim
  | some a =>
    rw [e1] at p
    cases u with
    | int k =>
      dsimp only at p
      by_cases hl : -(2 ^ 63) ≤ k ∧ k < 2 ^ 63 ∧ a.length * k.toNat ≤ sizeLine
      · rw [if_pos hl] at p
        obtain ⟨c, xs, ex, h1, r1⟩ := lstOf_at S rx e1
        exact ⟨c, k, xs, ex, ry, h1, hl.1, hl.2.1, by rw [r1.length]; exact hl.2.2, post_mkL S (r1.replicate _) p⟩
      · rw [if_neg hl] at p
        exact p.elim
    | _ => exact p.elim
end
/-- + of ints, lists, tuples; * of ints, of a list -/
def fAdd (z : Bool) : F2 := orF fAddI (orF (fCat z) fCatT)
def fMul (z : Bool) : F2 := orF fMulI (fRep z)
section
variable {X : Cx} {E : XK} {a b : Expr} {ma mb : EM} {pos : Pos}
theorem re_add {z : Bool} (ha : RE X E a ma) (hb : RE X E b mb) : RE X E (.BinOp a .Add b pos) (eOp (fAdd z) ma mb) := re_op (op_add.or (op_cat.or op_catA)) (s_addI.or (s_cat.or s_catT)) ha hb
theorem re_sub (ha : RE X E a ma) (hb : RE X E b mb) : RE X E (.BinOp a .Sub b pos) (eOp fSub ma mb) := re_op op_sub s_sub ha hb
theorem re_mul {z : Bool} (ha : RE X E a ma) (hb : RE X E b mb) : RE X E (.BinOp a .Mult b pos) (eOp (fMul z) ma mb) := re_op (op_mul.or op_rep) (s_mulI.or s_rep) ha hb
theorem re_div (ha : RE X E a ma) (hb : RE X E b mb) : RE X E (.BinOp a .FloorDiv b pos) (eOp fDiv ma mb) := re_op op_fdiv s_div ha hb
theorem re_mod (ha : RE X E a ma) (hb : RE X E b mb) : RE X E (.BinOp a .Mod b pos) (eOp fMod ma mb) := re_op op_mod s_mod ha hb
theorem re_pow (ha : RE X E a ma) (hb : RE X E b mb) : RE X E (.BinOp a .Pow b pos) (eOp fPow ma mb) := re_op op_pow s_pow ha hb
theorem re_lt (ha : RE X E a ma) (hb : RE X E b mb) : RE X E (.Compare a [.Lt] [b] pos) (eOp fLt ma mb) := re_cmp op_lt s_lt ha hb (nomark _)
theorem re_le (ha : RE X E a ma) (hb : RE X E b mb) : RE X E (.Compare a [.LtE] [b] pos) (eOp fLe ma mb) := re_cmp op_le s_le ha hb (nomark _)
theorem re_gt (ha : RE X E a ma) (hb : RE X E b mb) : RE X E (.Compare a [.Gt] [b] pos) (eOp fGt ma mb) := re_cmp op_gt s_gt ha hb (nomark _)
theorem re_ge (ha : RE X E a ma) (hb : RE X E b mb) : RE X E (.Compare a [.GtE] [b] pos) (eOp fGe ma mb) := re_cmp op_ge s_ge ha hb (nomark _)
end

/-! ### is -/
def isNon : Val → Bool
  | .non => true
  | _ => false
def fIsN : F2 := fun v u G => match u with
  | .non => .ok (.bl (isNon v)) G
  | _ => .bad
def fNotN : F2 := fun v u G => match u with
  | .non => .ok (.bl (!isNon v)) G
  | _ => .bad
def fIsB : F2 := fun v u G => match v, u with
  | .bl a, .bl b => .ok (.bl (a == b)) G
  | _, _ => .bad
def fNotB : F2 := fun v u G => match v, u with
  | .bl a, .bl b => .ok (.bl (!(a == b))) G
  | _, _ => .bad
section
variable {K : PySem.W.Frag} {E : XK} {ι : Vw} {n : Nat} {H : Hp}
theorem rep_non {v : Val} {x : V} (h : Rep K ι n H v x) : decide (x = .non) = isNon v := by
  cases v with
  | non => rw [show x = .non from h]; rfl
  | bl b => rw [show x = .bl b from h]; rfl
  | int i => rw [show x = .int i from h]; rfl
  | str s => rw [show x = .str (nm s) from h]; rfl
  | tup l => obtain ⟨a, xs, e, _⟩ := h; rw [e]; rfl
  | fro l => obtain ⟨a, xs, e, _⟩ := h; rw [e]; rfl
  | scr l => obtain ⟨a, xs, e, _⟩ := h; rw [e]; rfl
  | frd l => obtain ⟨a, xs, e, _⟩ := h; rw [e]; rfl
  | obj i => rw [h.2]; rfl
theorem s_isN : OpS K E (fun x y H Q => y = .non ∧ Q (.bl (decide (x = .non))) H) fIsN := by
  intro ι G H v u x y Q S rx ry p
  unfold fIsN at p
  cases u with
  | non =>
    refine ⟨ry, ?_⟩
    rw [rep_non rx]
    exact p.here S _ rfl
  | _ => exact p.elim
theorem s_notN : OpS K E (fun x y H Q => y = .non ∧ Q (.bl (!decide (x = .non))) H) fNotN := by
  intro ι G H v u x y Q S rx ry p
  unfold fNotN at p
  cases u with
  | non =>
    refine ⟨ry, ?_⟩
    rw [rep_non rx]
    exact p.here S _ rfl
  | _ => exact p.elim
theorem s_isB : OpS K E rIsB fIsB := by
  intro ι G H v u x y Q S rx ry p
  unfold fIsB at p
  cases v with
  | bl a =>
    cases u with
    | bl b =>
      refine ⟨a, b, rx, ry, ?_⟩
      have q := p.here S _ rfl
      rw [show decide (a = b) = (a == b) by cases a <;> cases b <;> rfl]
      exact q
    | _ => exact p.elim
  | _ => exact p.elim
theorem s_notB : OpS K E rNotB fNotB := by
  intro ι G H v u x y Q S rx ry p
  unfold fNotB at p
  cases v with
  | bl a =>
    cases u with
    | bl b =>
      refine ⟨a, b, rx, ry, ?_⟩
      have q := p.here S _ rfl
      rw [show decide (a = b) = (a == b) by cases a <;> cases b <;> rfl]
      exact q
    | _ => exact p.elim
  | _ => exact p.elim
end
def fIs : F2 := orF fIsN fIsB
def fIsNot : F2 := orF fNotN fNotB
section
variable {X : Cx} {E : XK} {a b : Expr} {ma mb : EM} {pos : Pos}
theorem re_is (ha : RE X E a ma) (hb : RE X E b mb) : RE X E (.Compare a [.Is] [b] pos) (eOp fIs ma mb) := re_cmp (op_isN.or op_isBl) (s_isN.or s_isB) ha hb (nomark _)
theorem re_isnot (ha : RE X E a ma) (hb : RE X E b mb) : RE X E (.Compare a [.IsNot] [b] pos) (eOp fIsNot ma mb) := re_cmp (op_notN.or op_notBl) (s_notN.or s_notB) ha hb (nomark _)
end

/-! ### data: ==, !=, in, not in -/
def optAll {α β : Type} (f : α → Option β) : List α → Option (List β)
  | [] => some []
  | a :: l => match f a, optAll f l with
    | some b, some r => some (b :: r)
    | _, _ => none
def toD (G : Store) : Nat → Val → Option PyData
  | _, .non => some .none
  | _, .bl b => some (.bool b)
  | _, .int i => some (.int i)
  | _, .str s => some (.str (nm s))
  | 0, .tup _ => none
  | 0, .fro _ => none
  | 0, .obj _ => none
  | _, .frd _ => none
  | _, .scr _ => none
  | k + 1, .tup l => (optAll (toD G k) l).map .tuple
  | k + 1, .fro l => (optAll (toD G k) l).map .list
  | k + 1, .obj i => match G[i]? with
    | some (.lst l) => (optAll (toD G k) l).map .list
    | _ => none
/-- the depth that is looked at -/
def dEq : Nat := 40
def fEq : F2 := fun v u G => match toD G dEq v, toD G dEq u with
  | some d, some e => .ok (.bl (PyData.eqv d e)) G
  | _, _ => .bad
def fNe : F2 := fun v u G => match toD G dEq v, toD G dEq u with
  | some d, some e => .ok (.bl (!PyData.eqv d e)) G
  | _, _ => .bad
def itemsOf (G : Store) : Val → Option (List Val)
  | .tup l => some l
  | .fro l => some l
  | .scr l => some l
  | .obj i => match G[i]? with
    | some (.lst l) => some l
    | _ => none
  | _ => none
def fIn (neg : Bool) : F2 := fun v u G => match toD G dEq v, (itemsOf G u).bind (optAll (toD G dEq)) with
  | some d, some es => .ok (.bl (neg != (es.any fun y => PyData.eqv y d))) G
  | _, _ => .bad
section
variable {K : PySem.W.Frag} {E : XK} {ι : Vw} {G : Store} {H : Hp}
theorem optAll_cons {α β : Type} {f : α → Option β} {a : α} {l : List α} {r : List β} (h : optAll f (a :: l) = some r) : ∃ b s, f a = some b ∧ optAll f l = some s ∧ r = b :: s := by
  unfold optAll at h
  cases e1 : f a with
  | none => rw [e1] at h; cases h
  | some b =>
    cases e2 : optAll f l with
    | none => rw [e1, e2] at h; cases h
    | some s => rw [e1, e2] at h; exact ⟨b, s, rfl, rfl, (Option.some.inj h).symm⟩
mutual
theorem depth_all : ∀ (ds : List PyData) (k : Nat), (∀ d ∈ ds, d.depth ≤ k) → PyData.depthAll ds ≤ k
  | [], k, _ => Nat.zero_le _
  | d :: ds, k, h => by
    show max d.depth (PyData.depthAll ds) ≤ k
    exact Nat.max_le.mpr ⟨h d (List.mem_cons_self ..), depth_all ds k fun e he => h e (List.mem_cons_of_mem _ he)⟩
end
theorem plain_all : ∀ (ds : List PyData), (∀ d ∈ ds, d.plain = true) → PyData.plainAll ds = true
  | [], _ => rfl
  | d :: ds, h => by
    show (d.plain && PyData.plainAll ds) = true
    rw [h d (List.mem_cons_self ..), plain_all ds fun e he => h e (List.mem_cons_of_mem _ he)]
    rfl
theorem optAll_mem {α β : Type} {f : α → Option β} : ∀ {l : List α} {r : List β}, optAll f l = some r → ∀ b ∈ r, ∃ a ∈ l, f a = some b
  | [], r, h, b, hb => by cases h; cases hb
  | a :: l, r, h, b, hb => by
    obtain ⟨c, s, e1, e2, rfl⟩ := optAll_cons h
    rcases List.mem_cons.mp hb with rfl | hb
    · exact ⟨a, List.mem_cons_self .., e1⟩
    · obtain ⟨z, hz, ez⟩ := optAll_mem e2 b hb
      exact ⟨z, List.mem_cons_of_mem _ hz, ez⟩
theorem toD_ok : ∀ (k : Nat) (v : Val) (d : PyData), toD G k v = some d → d.plain = true ∧ d.depth ≤ k
  | k, .non, d, h => by cases k <;> (cases h; exact ⟨rfl, Nat.zero_le _⟩)
  | k, .bl b, d, h => by cases k <;> (cases h; exact ⟨rfl, Nat.zero_le _⟩)
  | k, .int i, d, h => by cases k <;> (cases h; exact ⟨rfl, Nat.zero_le _⟩)
  | k, .str s, d, h => by cases k <;> (cases h; exact ⟨rfl, Nat.zero_le _⟩)
  | 0, .tup _, d, h => by cases h
  | 0, .fro _, d, h => by cases h
  | k, .frd _, d, h => by cases k <;> cases h
  | k, .scr _, d, h => by cases k <;> cases h
  | 0, .obj _, d, h => by cases h
  | k + 1, .tup l, d, h => by
    have h1 : (optAll (toD G k) l).map PyData.tuple = some d := h
    cases e : optAll (toD G k) l with
    | none => rw [e] at h1; cases h1
    | some ds =>
      rw [e] at h1
      cases h1
      have m := optAll_mem e
      refine ⟨plain_all ds fun x hx => ?_, ?_⟩
      · obtain ⟨a, _, ea⟩ := m x hx
        exact (toD_ok k a x ea).1
      · show PyData.depthAll ds + 1 ≤ k + 1
        exact Nat.succ_le_succ (depth_all ds k fun x hx => by
          obtain ⟨a, _, ea⟩ := m x hx
          exact (toD_ok k a x ea).2)
  | k + 1, .fro l, d, h => by
    have h1 : (optAll (toD G k) l).map PyData.list = some d := h
    cases e : optAll (toD G k) l with
    | none => rw [e] at h1; cases h1
    | some ds =>
      rw [e] at h1
      cases h1
      have m := optAll_mem e
      refine ⟨plain_all ds fun x hx => ?_, ?_⟩
      · obtain ⟨a, _, ea⟩ := m x hx
        exact (toD_ok k a x ea).1
      · show PyData.depthAll ds + 1 ≤ k + 1
        exact Nat.succ_le_succ (depth_all ds k fun x hx => by
          obtain ⟨a, _, ea⟩ := m x hx
          exact (toD_ok k a x ea).2)
  | k + 1, .obj i, d, h => by
    have h0 : (match G[i]? with | some (.lst l) => (optAll (toD G k) l).map PyData.list | _ => none) = some d := h
    cases e0 : G[i]? with
    | none => rw [e0] at h0; cases h0
    | some o =>
      rw [e0] at h0
      cases o with
      | lst l =>
        have h1 : (optAll (toD G k) l).map PyData.list = some d := h0
        cases e : optAll (toD G k) l with
        | none => rw [e] at h1; cases h1
        | some ds =>
          rw [e] at h1
          cases h1
          have m := optAll_mem e
          refine ⟨plain_all ds fun x hx => ?_, ?_⟩
          · obtain ⟨a, _, ea⟩ := m x hx
            exact (toD_ok k a x ea).1
          · show PyData.depthAll ds + 1 ≤ k + 1
            exact Nat.succ_le_succ (depth_all ds k fun x hx => by
              obtain ⟨a, _, ea⟩ := m x hx
              exact (toD_ok k a x ea).2)
      | _ => cases h0
theorem dp_all (k : Nat) (ih : ∀ v x d, Rep K ι G.length H v x → toD G k v = some d → Dp K H x d) : ∀ (l : List Val) (xs : List V) (ds : List PyData), Reps K ι G.length H l xs → optAll (toD G k) l = some ds → DpAll K H xs ds
  | [], xs, ds, r, e => by
    rw [show xs = [] from r]
    cases e
    exact .nil
  | v :: l, xs, ds, ⟨y, ys, h1, h2, h3⟩, e => by
    obtain ⟨b, s, e1, e2, rfl⟩ := optAll_cons e
    rw [h1]
    exact .cons (ih v y b h2 e1) (dp_all k ih l ys s h3 e2)
theorem dp_of (S : Sim K ι G H) : ∀ (k : Nat) (v : Val) (x : V) (d : PyData), Rep K ι G.length H v x → toD G k v = some d → Dp K H x d
  | k, .non, x, d, r, h => by rw [show x = .non from r]; cases k <;> (cases h; exact .non)
  | k, .bl b, x, d, r, h => by rw [show x = .bl b from r]; cases k <;> (cases h; exact .bl b)
  | k, .int i, x, d, r, h => by rw [show x = .int i from r]; cases k <;> (cases h; exact .int i)
  | k, .str s, x, d, r, h => by rw [show x = .str (nm s) from r]; cases k <;> (cases h; exact .str (nm s))
  | 0, .tup _, x, d, r, h => by cases h
  | 0, .fro _, x, d, r, h => by cases h
  | k, .frd _, x, d, r, h => by cases k <;> cases h
  | k, .scr _, x, d, r, h => by cases k <;> cases h
  | 0, .obj _, x, d, r, h => by cases h
  | k + 1, .tup l, x, d, ⟨a, xs, e1, h1, r⟩, h => by
    have h2 : (optAll (toD G k) l).map PyData.tuple = some d := h
    cases e : optAll (toD G k) l with
    | none => rw [e] at h2; cases h2
    | some ds =>
      rw [e] at h2
      cases h2
      rw [e1]
      exact .tup h1 (dp_all k (fun v x d r q => dp_of S k v x d r q) l xs ds r e)
  | k + 1, .fro l, x, d, ⟨a, xs, e1, h1, r⟩, h => by
    have h2 : (optAll (toD G k) l).map PyData.list = some d := h
    cases e : optAll (toD G k) l with
    | none => rw [e] at h2; cases h2
    | some ds =>
      rw [e] at h2
      cases h2
      rw [e1]
      exact .lst h1.l (dp_all k (fun v x d r q => dp_of S k v x d r q) l xs ds r e)
  | k + 1, .obj i, x, d, r, h => by
    have h0 : (match G[i]? with | some (.lst l) => (optAll (toD G k) l).map PyData.list | _ => none) = some d := h
    cases e0 : G[i]? with
    | none => rw [e0] at h0; cases h0
    | some o =>
      rw [e0] at h0
      cases o with
      | lst l =>
        have h2 : (optAll (toD G k) l).map PyData.list = some d := h0
        cases e : optAll (toD G k) l with
        | none => rw [e] at h2; cases h2
        | some ds =>
          rw [e] at h2
          cases h2
          obtain ⟨xs, h1, rr⟩ := S.lst e0
          rw [r.2]
          exact .lst (.of h1) (dp_all k (fun v x d r q => dp_of S k v x d r q) l xs ds rr e)
      | _ => cases h0
end
def rEqP (K : PySem.W.Frag) : R2 := fun x y H Q => ∃ d e, Dp K H x d ∧ Dp K H y e ∧ d.plain = true ∧ e.plain = true ∧ d.depth ≤ dEq ∧ Q (.bl (PyData.eqv d e)) H
def rNeP (K : PySem.W.Frag) : R2 := fun x y H Q => ∃ d e, Dp K H x d ∧ Dp K H y e ∧ d.plain = true ∧ e.plain = true ∧ d.depth ≤ dEq ∧ Q (.bl (!PyData.eqv d e)) H
def rInP (K : PySem.W.Frag) (neg : Bool) : R2 := fun x y H Q => ∃ (d : PyData) (es : List PyData) (a : Addr) (ys : List V), Dp K H x d ∧ y = .ref a ∧ (SqL K H a ys ∨ SqT K H a ys) ∧ DpAll K H ys es ∧ d.plain = true ∧ PyData.plainAll es = true ∧ d.depth ≤ dEq ∧ Q (.bl (neg != es.any fun y => PyData.eqv y d)) H
section
variable {X : Cx} {E : XK} {a b : Expr} {ma mb : EM} {pos : Pos}
theorem op_eqP (hu : X.A.units + 64 < cLine) : OpR X (compareOp .Eq) (rEqP X.K) := by
  intro pins s σ H x y v u Q I rx ry h
  obtain ⟨d, e, hd, he, sd, se, hl, q⟩ := h
  obtain ⟨as, r1⟩ := Dp.reads I d x v hd rx
  obtain ⟨bs, r2⟩ := Dp.reads I e y u he ry
  have hl' : d.depth ≤ 40 := hl
  have hm : min d.depth e.depth ≤ d.depth := Nat.min_le_left _ _
  exact SeqAt.eq_plain r1 r2 sd se (by omega) ⟨.bl _, H, I, rfl, q⟩
theorem op_neP (hu : X.A.units + 64 < cLine) : OpR X (compareOp .NotEq) (rNeP X.K) := by
  intro pins s σ H x y v u Q I rx ry h
  obtain ⟨d, e, hd, he, sd, se, hl, q⟩ := h
  obtain ⟨as, r1⟩ := Dp.reads I d x v hd rx
  obtain ⟨bs, r2⟩ := Dp.reads I e y u he ry
  have hl' : d.depth ≤ 40 := hl
  have hm : min d.depth e.depth ≤ d.depth := Nat.min_le_left _ _
  exact SeqAt.ne_plain r1 r2 sd se (by omega) ⟨.bl _, H, I, rfl, q⟩
theorem op_inP (hu : X.A.units + 64 < cLine) : OpR X (compareOp .In) (rInP X.K false) := by
  intro pins s σ H x y v u Q I rx ry h
  obtain ⟨d, es, p, ys, hd, rfl, hs, he, sd, se, hl, q⟩ := h
  obtain ⟨as, r1⟩ := Dp.reads I d x v hd rx
  have hl' : d.depth ≤ 40 := hl
  have hm : min (PyData.depthAll es) d.depth ≤ d.depth := Nat.min_le_right _ _
  rw [Bool.false_bne] at q
  rcases hs with hs | hs
  · obtain ⟨bs, r2⟩ := Dp.reads I (.list es) (.ref p) u (.lst hs he) ry
    exact SeqAt.in_list_data r2 r1 se sd (by omega) ⟨.bl _, H, I, rfl, q⟩
  · obtain ⟨bs, r2⟩ := Dp.reads I (.tuple es) (.ref p) u (.tup hs he) ry
    exact SeqAt.in_tuple_data r2 r1 se sd (by omega) ⟨.bl _, H, I, rfl, q⟩
theorem op_notInP (hu : X.A.units + 64 < cLine) : OpR X (compareOp .NotIn) (rInP X.K true) := by
  intro pins s σ H x y v u Q I rx ry h
  obtain ⟨d, es, p, ys, hd, rfl, hs, he, sd, se, hl, q⟩ := h
  obtain ⟨as, r1⟩ := Dp.reads I d x v hd rx
  have hl' : d.depth ≤ 40 := hl
  have hm : min (PyData.depthAll es) d.depth ≤ d.depth := Nat.min_le_right _ _
  rw [Bool.true_bne] at q
  rcases hs with hs | hs
  · obtain ⟨bs, r2⟩ := Dp.reads I (.list es) (.ref p) u (.lst hs he) ry
    exact SeqAt.notIn_list_data r2 r1 se sd (by omega) ⟨.bl _, H, I, rfl, q⟩
  · obtain ⟨bs, r2⟩ := Dp.reads I (.tuple es) (.ref p) u (.tup hs he) ry
    exact SeqAt.notIn_tuple_data r2 r1 se sd (by omega) ⟨.bl _, H, I, rfl, q⟩
end
section
variable {K : PySem.W.Frag} {E : XK}
theorem s_eq : OpS K E (rEqP K) fEq := by
  intro ι G H v u x y Q S rx ry p
  unfold fEq at p
  cases e1 : toD G dEq v with
  | none => rw [e1] at p; exact p.elim
  | some d =>
    cases e2 : toD G dEq u with
    | none => rw [e1, e2] at p; exact p.elim
    | some e =>
      rw [e1, e2] at p
      exact ⟨d, e, dp_of S _ v x d rx e1, dp_of S _ u y e ry e2, (toD_ok _ v d e1).1, (toD_ok _ u e e2).1, (toD_ok _ v d e1).2, p.here S _ rfl⟩
theorem s_ne : OpS K E (rNeP K) fNe := by
  intro ι G H v u x y Q S rx ry p
  unfold fNe at p
  cases e1 : toD G dEq v with
  | none => rw [e1] at p; exact p.elim
  | some d =>
    cases e2 : toD G dEq u with
    | none => rw [e1, e2] at p; exact p.elim
    | some e =>
      rw [e1, e2] at p
      exact ⟨d, e, dp_of S _ v x d rx e1, dp_of S _ u y e ry e2, (toD_ok _ v d e1).1, (toD_ok _ u e e2).1, (toD_ok _ v d e1).2, p.here S _ rfl⟩
theorem items_at {ι : Vw} {G : Store} {H : Hp} {u : Val} {y : V} {l : List Val} (S : Sim K ι G H) (r : Rep K ι G.length H u y) (h : itemsOf G u = some l) : ∃ a ys, y = .ref a ∧ (SqL K H a ys ∨ SqT K H a ys) ∧ Reps K ι G.length H l ys := by
  cases u with
  | tup m =>
    cases h
    obtain ⟨a, xs, e, h1, h2⟩ := r
    exact ⟨a, xs, e, .inr h1, h2⟩
  | fro m =>
    cases h
    obtain ⟨a, xs, e, h1, h2⟩ := r
    exact ⟨a, xs, e, .inl h1.l, h2⟩
  | scr m =>
    cases h
    obtain ⟨a, xs, e, h1, h2⟩ := r
    exact ⟨a, xs, e, .inl h1.l, h2⟩
  | obj i =>
    have h0 : (match G[i]? with | some (.lst l) => some l | _ => none) = some l := h
    cases e0 : G[i]? with
    | none => rw [e0] at h0; cases h0
    | some o =>
      rw [e0] at h0
      cases o with
      | lst m =>
        cases h0
        obtain ⟨xs, h1, h2⟩ := S.lst e0
        exact ⟨ι i, xs, r.2, .inl (.of h1), h2⟩
      | _ => cases h0
  | _ => cases h
theorem s_in {neg : Bool} : OpS K E (rInP K neg) (fIn neg) := by
  intro ι G H v u x y Q S rx ry p
  unfold fIn at p
  cases e1 : toD G dEq v with
  | none => rw [e1] at p; exact p.elim
  | some d =>
    cases e2 : itemsOf G u with
    | none => rw [e1, e2] at p; exact p.elim
    | some l =>
      cases e3 : optAll (toD G dEq) l with
      | none =>
        rw [e1, e2] at p
        have p2 : Post K E ι G.length H (match some d, optAll (toD G dEq) l with | some d, some es => .ok (.bl (neg != (es.any fun y => PyData.eqv y d))) G | _, _ => .bad) (fun ι' G' H' w => ∀ z, Rep K ι' G'.length H' w z → Q z H') := p
        rw [e3] at p2
        exact p2.elim
      | some es =>
        rw [e1, e2] at p
        have p2 : Post K E ι G.length H (match some d, optAll (toD G dEq) l with | some d, some es => .ok (.bl (neg != (es.any fun y => PyData.eqv y d))) G | _, _ => .bad) (fun ι' G' H' w => ∀ z, Rep K ι' G'.length H' w z → Q z H') := p
        rw [e3] at p2
        obtain ⟨a, ys, ey, h1, h2⟩ := items_at S ry e2
        exact ⟨d, es, a, ys, dp_of S _ v x d rx e1, ey, h1, dp_all dEq (fun v x d r q => dp_of S dEq v x d r q) l ys es h2 e3, (toD_ok _ v d e1).1, plain_all es fun z hz => by
          obtain ⟨w, _, ew⟩ := optAll_mem e3 z hz
          exact (toD_ok _ w z ew).1, (toD_ok _ v d e1).2, p2.here S _ rfl⟩
end
section
variable {X : Cx} {E : XK} {a b : Expr} {ma mb : EM} {pos : Pos}
theorem re_eq (hu : X.A.units + 64 < cLine) (ha : RE X E a ma) (hb : RE X E b mb) : RE X E (.Compare a [.Eq] [b] pos) (eOp fEq ma mb) := re_cmp (op_eqP hu) s_eq ha hb (nomark _)
theorem re_ne (hu : X.A.units + 64 < cLine) (ha : RE X E a ma) (hb : RE X E b mb) : RE X E (.Compare a [.NotEq] [b] pos) (eOp fNe ma mb) := re_cmp (op_neP hu) s_ne ha hb (nomark _)
end
end R1

/-! R1c: tests, truth, and, or, not; displays; places, slices, fields; calls of built-ins. -/
namespace R1
open PySem PySem.Spec PyProof.Rows L2

/-! ### tests -/
def Res.asB (r : Res Val) : Res Bool := r.bind fun v G => match v with
  | .bl b => .ok b G
  | _ => .bad
def eTest (m : EM) : TM := fun ρ G => (m ρ G).asB
def truth (G : Store) : Val → Option Bool
  | .non => some false
  | .bl b => some b
  | .int i => some (i != 0)
  | .str _ => none
  | .tup l => some (!l.isEmpty)
  | .fro l => some (!l.isEmpty)
  | .frd _ => none
  | .scr _ => none
  | .obj i => match G[i]? with
    | some (.lst l) => some (!l.isEmpty)
    | some (.dic l) => some (!l.isEmpty)
    | _ => none
def eTruth (m : EM) : TM := fun ρ G => (m ρ G).bind fun v G1 => match truth G1 v with
  | some b => .ok b G1
  | none => .bad
def tNot1 (m : TM) : TM := fun ρ G => (m ρ G).bind fun b G1 => .ok (!b) G1
def tAnd1 (m k : TM) : TM := fun ρ G => (m ρ G).bind fun b G1 => if b = true then k ρ G1 else .ok false G1
def tOr1 (m k : TM) : TM := fun ρ G => (m ρ G).bind fun b G1 => if b = true then .ok true G1 else k ρ G1
section
variable {X : Cx} {E : XK} {a b c : Expr} {ma mb mc : EM} {ta tb : TM} {pos : Pos} {rest : List Expr}
/-- an expression, then what its value is worth -/
theorem run1 {σ : L2.St} {H : Hp} {ι : Vw} {G : Store} {ρ : Env1} {R : V → Hp → Prop} (S : Sim X.K ι G H) (sl : Slots X.K ι G.length H ρ σ)
    (h : Post X.K E ι G.length H (ma ρ G) fun ι' G' H' v => ∀ x, Rep X.K ι' G'.length H' v x → R x H') : tE X.K E ma σ H R := ⟨ι, G, ρ, S, sl, h⟩
theorem rt_of {t : TE} (h : PT X a (tTest t)) (w : ∀ σ H Q, tE X.K E ma σ H Q → t σ H Q) : RT X E a (eTest ma) := by
  refine pt_weak h fun σ H Q ⟨ι, G, ρ, S, sl, p⟩ => w σ H _ (run1 S sl ((Post.bind p).mono fun ι1 G1 H1 v x1 S1 p1 x rx => ?_))
  cases v with
  | bl b => exact ⟨b, rx, p1.here S1⟩
  | _ => exact p1.elim
theorem rt_cmp {op : CmpOp} {r : R2} {f : F2} (ho : OpR X (compareOp op) r) (hs : OpS X.K E r f) (ha : RE X E a ma) (hb : RE X E b mb) (hm : behindInMarks op b = false) : RT X E (.Compare a [op] [b] pos) (eTest (eOp f ma mb)) :=
  rt_of (pt_cmpR ho ha hb hm) fun σ H Q h => two h fun ι G H' v u x y S rx ry p => hs ι G H' v u x y Q S rx ry p
theorem rt_lt (ha : RE X E a ma) (hb : RE X E b mb) : RT X E (.Compare a [.Lt] [b] pos) (eTest (eOp fLt ma mb)) := rt_cmp op_lt s_lt ha hb (nomark _)
theorem rt_le (ha : RE X E a ma) (hb : RE X E b mb) : RT X E (.Compare a [.LtE] [b] pos) (eTest (eOp fLe ma mb)) := rt_cmp op_le s_le ha hb (nomark _)
theorem rt_gt (ha : RE X E a ma) (hb : RE X E b mb) : RT X E (.Compare a [.Gt] [b] pos) (eTest (eOp fGt ma mb)) := rt_cmp op_gt s_gt ha hb (nomark _)
theorem rt_ge (ha : RE X E a ma) (hb : RE X E b mb) : RT X E (.Compare a [.GtE] [b] pos) (eTest (eOp fGe ma mb)) := rt_cmp op_ge s_ge ha hb (nomark _)
theorem rt_eq (hu : X.A.units + 64 < cLine) (ha : RE X E a ma) (hb : RE X E b mb) : RT X E (.Compare a [.Eq] [b] pos) (eTest (eOp fEq ma mb)) := rt_cmp (op_eqP hu) s_eq ha hb (nomark _)
theorem rt_ne (hu : X.A.units + 64 < cLine) (ha : RE X E a ma) (hb : RE X E b mb) : RT X E (.Compare a [.NotEq] [b] pos) (eTest (eOp fNe ma mb)) := rt_cmp (op_neP hu) s_ne ha hb (nomark _)
theorem rt_is (ha : RE X E a ma) (hb : RE X E b mb) : RT X E (.Compare a [.Is] [b] pos) (eTest (eOp fIs ma mb)) := rt_cmp (op_isN.or op_isBl) (s_isN.or s_isB) ha hb (nomark _)
theorem rt_isnot (ha : RE X E a ma) (hb : RE X E b mb) : RT X E (.Compare a [.IsNot] [b] pos) (eTest (eOp fIsNot ma mb)) := rt_cmp (op_notN.or op_notBl) (s_notN.or s_notB) ha hb (nomark _)
/-! two comparisons in a row -/
def eChain (f g : F2) (a b c : EM) : EM := fun ρ G => (a ρ G).bind fun v G1 => (b ρ G1).bind fun u G2 => (f v u G2).bind fun k G3 => match k with
  | .bl true => (c ρ G3).bind fun w G4 => g u w G4
  | .bl false => .ok (.bl false) G3
  | _ => .bad
theorem chain_w {f g : F2} {r r' : R2} (hf : OpS X.K E r f) (hg : OpS X.K E r' g) : ∀ σ H Q, tE X.K E (eChain f g ma mb mc) σ H Q → tChain r r' (tE X.K E ma) (tE X.K E mb) (tE X.K E mc) σ H Q := fun σ H Q ⟨ι, G, ρ, S, sl, p⟩ => by
  refine run1 S sl ((Post.bind p).mono fun ι1 G1 H1 v x1 S1 p1 x rx => run1 S1 (sl.ext x1) ((Post.bind p1).mono fun ι2 G2 H2 u x2 S2 p2 y ry => ?_))
  refine hf ι2 G2 H2 v u x y _ S2 (rx.ext x2) ry ((Post.bind p2).mono fun ι3 G3 H3 k x3 S3 p3 z rz => ?_)
  cases k with
  | bl k =>
    refine ⟨k, rz, ?_⟩
    cases k with
    | false =>
      rw [if_neg (by decide)]
      exact p3.here S3 _ rfl
    | true =>
      rw [if_pos rfl]
      exact run1 S3 (sl.ext ((x1.trans x2).trans x3)) ((Post.bind p3).mono fun ι4 G4 H4 w x4 S4 p4 z' rz' => hg ι4 G4 H4 u w y z' Q S4 (ry.ext (x3.trans x4)) rz' p4)
  | _ => exact p3.elim
theorem re_chain {op op' : CmpOp} {r r' : R2} {f g : F2} (ho : OpR X (compareOp op) r) (ho' : OpR X (compareOp op') r') (hf : OpS X.K E r f) (hg : OpS X.K E r' g) (ha : RE X E a ma) (hb : RE X E b mb) (hc : RE X E c mc)
    (hm : lastMarks [op, op'] [b, c] = false := by with_unfolding_all rfl) : RE X E (.Compare a [op, op'] [b, c] pos) (eChain f g ma mb mc) := pe_weak (pe_chain ho ho' ha hb hc hm) (chain_w hf hg)
theorem rt_chain {op op' : CmpOp} {r r' : R2} {f g : F2} (ho : OpR X (compareOp op) r) (ho' : OpR X (compareOp op') r') (hf : OpS X.K E r f) (hg : OpS X.K E r' g) (ha : RE X E a ma) (hb : RE X E b mb) (hc : RE X E c mc)
    (hm : lastMarks [op, op'] [b, c] = false := by with_unfolding_all rfl) : RT X E (.Compare a [op, op'] [b, c] pos) (eTest (eChain f g ma mb mc)) := rt_of (pt_chain ho ho' ha hb hc hm) (chain_w hf hg)
/-! truth -/
theorem tru_at {K : PySem.W.Frag} {ι : Vw} {G : Store} {H : Hp} {v : Val} {x : V} {b : Bool} (S : Sim K ι G H) (r : Rep K ι G.length H v x) (h : truth G v = some b) : TruV K x H b := by
  cases v with
  | non => rw [show x = .non from r]; cases h; rfl
  | bl k => rw [show x = .bl k from r]; cases h; rfl
  | int i => rw [show x = .int i from r]; cases h; rfl
  | str s => cases h
  | tup l =>
    obtain ⟨a, xs, e, h1, h2⟩ := r
    cases h
    rw [e]
    refine .inr (.inl ⟨xs, h1, ?_⟩)
    have := h2.length
    cases l <;> cases xs <;> first | rfl | simp at this
  | fro l =>
    obtain ⟨a, xs, e, h1, h2⟩ := r
    cases h
    rw [e]
    refine .inl ⟨xs, h1.l, ?_⟩
    have := h2.length
    cases l <;> cases xs <;> first | rfl | simp at this
  | frd l => cases h
  | scr l => cases h
  | obj i =>
    have h0 : (match G[i]? with | some (.lst l) => some (!l.isEmpty) | some (.dic l) => some (!l.isEmpty) | _ => none) = some b := h
    rw [r.2]
    cases e0 : G[i]? with
    | none => rw [e0] at h0; cases h0
    | some o =>
      rw [e0] at h0
      cases o with
      | lst l =>
        cases h0
        obtain ⟨xs, h1, h2⟩ := S.lst e0
        refine .inl ⟨xs, .of h1, ?_⟩
        have := h2.length
        cases l <;> cases xs <;> first | rfl | simp at this
      | dic l =>
        cases h0
        obtain ⟨xs, h1, h2⟩ := S.dic e0
        refine .inr (.inr ⟨xs, h1, ?_⟩)
        have := h2.length
        cases l <;> cases xs <;> first | rfl | simp at this
      | _ => cases h0
theorem rt_truth (ha : RE X E a ma) (he : ∀ whole, isTrue a X.env whole = (do let v ← whole; standAt a.pos; holding [v] (truthy v)) := by intro _; rfl) : RT X E a (eTruth ma) := by
  refine pt_weak (pt_truth ha he) fun σ H Q ⟨ι, G, ρ, S, sl, p⟩ => run1 S sl ((Post.bind p).mono fun ι1 G1 H1 v x1 S1 p1 x rx => ?_)
  cases e : truth G1 v with
  | none => rw [e] at p1; exact p1.elim
  | some b =>
    rw [e] at p1
    exact ⟨b, tru_at S1 rx e, p1.here S1⟩
theorem rt_not (ha : RT X E a ta) : RT X E (.UnaryOp .Not a pos) (tNot1 ta) := by
  refine pt_weak (pt_not ha) fun σ H Q ⟨ι, G, ρ, S, sl, p⟩ => ⟨ι, G, ρ, S, sl, (Post.bind p).mono fun ι1 G1 H1 b x1 S1 p1 => p1.here S1⟩
theorem rw_and1 (ha : RT X E a ta) : RW X E (.BoolOp .And [a] pos) ta := pw_and1 ha
theorem rw_or1 (ha : RT X E a ta) : RW X E (.BoolOp .Or [a] pos) ta := pw_or1 ha
theorem rw_and (ha : RT X E a ta) (hb : RW X E (.BoolOp .And (b :: rest) pos) tb) : RW X E (.BoolOp .And (a :: b :: rest) pos) (tAnd1 ta tb) := by
  refine pw_weak (pw_and ha hb) fun σ H Q ⟨ι, G, ρ, S, sl, p⟩ => ⟨ι, G, ρ, S, sl, (Post.bind p).mono fun ι1 G1 H1 b x1 S1 p1 => ?_⟩
  cases b with
  | true => exact ⟨ι1, G1, ρ, S1, sl.ext x1, p1⟩
  | false => exact p1.here S1
theorem rw_or (ha : RT X E a ta) (hb : RW X E (.BoolOp .Or (b :: rest) pos) tb) : RW X E (.BoolOp .Or (a :: b :: rest) pos) (tOr1 ta tb) := by
  refine pw_weak (pw_or ha hb) fun σ H Q ⟨ι, G, ρ, S, sl, p⟩ => ⟨ι, G, ρ, S, sl, (Post.bind p).mono fun ι1 G1 H1 b x1 S1 p1 => ?_⟩
  cases b with
  | true => exact p1.here S1
  | false => exact ⟨ι1, G1, ρ, S1, sl.ext x1, p1⟩
theorem rt_bool (h : RW X E a ta) : RT X E a ta := h.pt
end

/-! ### and, or, not as values (of bools) -/
def eNot (m : EM) : EM := fun ρ G => (m ρ G).bind fun v G1 => match v with
  | .bl b => .ok (.bl (!b)) G1
  | _ => .bad
def eAnd (m k : EM) : EM := fun ρ G => (m ρ G).bind fun v G1 => match v with
  | .bl true => k ρ G1
  | .bl false => .ok (.bl false) G1
  | _ => .bad
def eOr (m k : EM) : EM := fun ρ G => (m ρ G).bind fun v G1 => match v with
  | .bl true => .ok (.bl true) G1
  | .bl false => k ρ G1
  | _ => .bad
def eIf (t : TM) (a b : EM) : EM := fun ρ G => (t ρ G).bind fun k G1 => if k = true then a ρ G1 else b ρ G1
section
variable {X : Cx} {E : XK} {a b c : Expr} {ma mb mc : EM} {ta tb : TM} {pos : Pos} {rest : List Expr}
theorem re_not (ha : RE X E a ma) : RE X E (.UnaryOp .Not a pos) (eNot ma) := by
  refine pe_weak (pe_not ha) fun σ H Q ⟨ι, G, ρ, S, sl, p⟩ => run1 S sl ((Post.bind p).mono fun ι1 G1 H1 v x1 S1 p1 x rx => ?_)
  cases v with
  | bl b => exact ⟨b, rx, p1.here S1 _ rfl⟩
  | _ => exact p1.elim
theorem re_one {op} (ha : RE X E a ma) : RE X E (.BoolOp op [a] pos) ma := pe_one ha
theorem re_and (ha : RE X E a ma) (hb : RE X E (.BoolOp .And (b :: rest) pos) mb) : RE X E (.BoolOp .And (a :: b :: rest) pos) (eAnd ma mb) := by
  refine pe_weak (pe_and ha hb) fun σ H Q ⟨ι, G, ρ, S, sl, p⟩ => run1 S sl ((Post.bind p).mono fun ι1 G1 H1 v x1 S1 p1 x rx => ?_)
  cases v with
  | bl k =>
    refine ⟨k, rx, ?_⟩
    cases k with
    | true => exact run1 S1 (sl.ext x1) p1
    | false => exact p1.here S1 _ rfl
  | _ => exact p1.elim
theorem re_or (ha : RE X E a ma) (hb : RE X E (.BoolOp .Or (b :: rest) pos) mb) : RE X E (.BoolOp .Or (a :: b :: rest) pos) (eOr ma mb) := by
  refine pe_weak (pe_or ha hb) fun σ H Q ⟨ι, G, ρ, S, sl, p⟩ => run1 S sl ((Post.bind p).mono fun ι1 G1 H1 v x1 S1 p1 x rx => ?_)
  cases v with
  | bl k =>
    refine ⟨k, rx, ?_⟩
    cases k with
    | true => exact p1.here S1 _ rfl
    | false => exact run1 S1 (sl.ext x1) p1
  | _ => exact p1.elim
theorem re_if (hc : RT X E c ta) (ha : RE X E a ma) (hb : RE X E b mb) : RE X E (.IfExp c a b pos) (eIf ta ma mb) := by
  refine pe_weak (pe_ifExp hc ha hb) fun σ H Q ⟨ι, G, ρ, S, sl, p⟩ => ⟨ι, G, ρ, S, sl, (Post.bind p).mono fun ι1 G1 H1 k x1 S1 p1 => ?_⟩
  cases k with
  | true => exact run1 S1 (sl.ext x1) p1
  | false => exact run1 S1 (sl.ext x1) p1
end

/-! ### arguments, displays -/
def aNil : AM := fun _ G => .ok [] G
def aCons (m : EM) (k : AM) : AM := fun ρ G => (m ρ G).bind fun v G1 => (k ρ G1).bind fun vs G2 => .ok (v :: vs) G2
def eTup (k : AM) : EM := fun ρ G => (k ρ G).bind fun vs G1 => if vs.length ≤ sizeLine then .ok (.tup vs) G1 else .bad
def eLst (z : Bool) (k : AM) : EM := fun ρ G => (k ρ G).bind fun vs G1 => if vs.length ≤ sizeLine then mkL z vs G1 else .bad
def eDic0 (z : Bool) : EM := fun _ G => mkD z [] G
section
variable {X : Cx} {E : XK} {e : Expr} {es : List Expr} {me : EM} {mes : AM} {pos : Pos}
theorem ra_nil : RA X E [] aNil := pa_weak pa_nil fun σ H Q ⟨ι, G, ρ, S, sl, p⟩ => p.here S [] rfl
theorem ra_cons (he : RE X E e me) (hr : RA X E es mes) (hs : starEach (e :: es) X.env = (false, eval e X.env) :: starEach es X.env := by rfl) : RA X E (e :: es) (aCons me mes) := by
  refine pa_weak (pa_cons he hr hs) fun σ H Q ⟨ι, G, ρ, S, sl, p⟩ => run1 S sl ((Post.bind p).mono fun ι1 G1 H1 v x1 S1 p1 x rx => ⟨ι1, G1, ρ, S1, sl.ext x1, (Post.bind p1).mono fun ι2 G2 H2 vs x2 S2 p2 xs rxs => p2.here S2 _ ⟨x, xs, rfl, rx.ext x2, rxs⟩⟩)
theorem re_tup {k} (h : RA X E es mes) : RE X E (.Tuple es k pos) (eTup mes) := by
  refine pe_weak (pe_tup h) fun σ H Q ⟨ι, G, ρ, S, sl, p⟩ => ⟨ι, G, ρ, S, sl, (Post.bind p).mono fun ι1 G1 H1 vs x1 S1 p1 xs rx => ?_⟩
  have p2 : Post X.K E ι1 G1.length H1 (if vs.length ≤ sizeLine then Res.ok (.tup vs) G1 else .bad) (fun ι' G' H' v => ∀ x, Rep X.K ι' G'.length H' v x → Q x H') := p1
  by_cases hl : vs.length ≤ sizeLine
  · rw [if_pos hl] at p2
    exact ⟨by rw [rx.length]; exact hl, post_tup S1 rx p2⟩
  · rw [if_neg hl] at p2
    exact p2.elim
theorem re_lst {z : Bool} (h : RA X E es mes) : RE X E (.List es pos) (eLst z mes) := by
  refine pe_weak (pe_lst h) fun σ H Q ⟨ι, G, ρ, S, sl, p⟩ => ⟨ι, G, ρ, S, sl, (Post.bind p).mono fun ι1 G1 H1 vs x1 S1 p1 xs rx => ?_⟩
  have p2 : Post X.K E ι1 G1.length H1 (if vs.length ≤ sizeLine then mkL z vs G1 else .bad) (fun ι' G' H' v => ∀ x, Rep X.K ι' G'.length H' v x → Q x H') := p1
  by_cases hl : vs.length ≤ sizeLine
  · rw [if_pos hl] at p2
    exact ⟨by rw [rx.length]; exact hl, post_mkL S1 rx p2⟩
  · rw [if_neg hl] at p2
    exact p2.elim
theorem post_obj {K : PySem.W.Frag} {ι : Vw} {G : Store} {H : Hp} {o : Ob} {u : HO} {Q : VK} (S : Sim K ι G H) (ho : ∀ ι' n' H' q, Ext K ι G.length H ι' n' H' → H' q = some u → ORep K ι' n' H' o q)
    (p : Post K E ι G.length H (alloc o G) (fun ι' G' H' w => ∀ z, Rep K ι' G'.length H' w z → Q z H')) : ∀ q, H q = none → Q (.ref q) (L2.upd H q u) := fun q hq => by
  have e1 : Ext K ι G.length H (into ι G.length q) (G.length + 1) (L2.upd H q u) := Ext.push hq
  have e : Ext K ι G.length H (into ι G.length q) (G ++ [o]).length (L2.upd H q u) := by
    rw [List.length_append, List.length_singleton]
    exact e1
  refine p (into ι G.length q) _ e (S.push hq (ho _ _ _ q e1 upd_same)) _ ⟨?_, ?_⟩
  · rw [List.length_append, List.length_singleton]
    exact Nat.lt_succ_self _
  · rw [into_eq]
theorem post_mkD {K : PySem.W.Frag} {ι : Vw} {G : Store} {H : Hp} {z : Bool} {l : List (Ky × Val)} {xs : List (Key × V)} {Q : VK} (S : Sim K ι G H) (r : KReps K ι G.length H l xs) (p : Post K E ι G.length H (mkD z l G) (fun ι' G' H' w => ∀ z, Rep K ι' G'.length H' w z → Q z H')) :
    ∀ q, H q = none → Q (.ref q) (L2.upd H q (.dK xs)) := by
  cases z with
  | true => exact post_frd S r p
  | false => exact post_obj (o := .dic l) (u := .dK xs) S (fun ι' n' H' q x h => ⟨xs, h, r.ext x⟩) p
theorem re_dic0 {z : Bool} : RE X E (.Dict [] [] pos) (eDic0 z) := pe_weak pe_dnewK fun σ H Q ⟨ι, G, ρ, S, sl, p⟩ => post_mkD (z := z) (l := []) S rfl p
end

/-! ### places -/
def atL (l : List Val) (i : Int) : Option Val := L2.atI l i
def keyOf : Val → Option Ky
  | .int i => some (.inl i)
  | .str k => some (.inr k)
  | _ => none
def lookK (kvs : List (Ky × Val)) (k : Ky) : Option Val := (kvs.find? fun kv => decide (kv.1 = k)).map (·.2)
def putKy (kvs : List (Ky × Val)) (k : Ky) (v : Val) : List (Ky × Val) :=
  if (kvs.any fun kv => decide (kv.1 = k)) = true then kvs.map (fun kv => if kv.1 = k then (kv.1, v) else kv) else kvs ++ [(k, v)]
def dropKy (kvs : List (Ky × Val)) (k : Ky) : List (Ky × Val) := kvs.filter fun kv => decide (kv.1 ≠ k)
/-- a list's, a tuple's item -/
def fIxS : F2 := fun v u G => match u, itemsOf G v with
  | .int i, some l => (match atL l i with
    | some w => .ok w G
    | none => .bad)
  | _, _ => .bad
/-- the pairs of a dict, walked or not -/
def dicOf (G : Store) (v : Val) : Option (List (Ky × Val)) := match v with
  | .obj i => (match G[i]? with
    | some (.dic l) => some l
    | some (.lok l) => some l
    | _ => none)
  | .frd l => some l
  | _ => none
theorem dicOf_at {K : PySem.W.Frag} {ι : Vw} {G : Store} {H : Hp} {v : Val} {x : V} {l : List (Ky × Val)} (S : Sim K ι G H) (r : Rep K ι G.length H v x) (h : dicOf G v = some l) : ∃ a xs, x = .ref a ∧ Rd H a (.dK xs) ∧ KReps K ι G.length H l xs := by
  unfold dicOf at h
  cases v with
  | obj i =>
    dsimp only at h
    cases e : G[i]? with
    | none => rw [e] at h; cases h
    | some o =>
      rw [e] at h
      cases o with
      | dic m =>
        cases h
        obtain ⟨xs, h1, h2⟩ := S.dic e
        exact ⟨ι i, xs, r.2, .inl h1, h2⟩
      | lok m =>
        cases h
        obtain ⟨o, xs, h1, h2⟩ := S.obj i _ e
        exact ⟨ι i, xs, r.2, .inr ⟨o, h1⟩, h2⟩
      | _ => cases h
  | frd m =>
    cases h
    obtain ⟨a, xs, e, h1, h2⟩ := r
    exact ⟨a, xs, e, h1.1, h2⟩
  | _ => cases h
/-- a dict's value -/
def fIxD : F2 := fun v u G => match dicOf G v, keyOf u with
  | some l, some k => (match lookK l k with
    | some w => .ok w G
    | none => .bad)
  | _, _ => .bad
def fIx : F2 := orF fIxS fIxD
section
variable {K : PySem.W.Frag} {E : XK} {ι : Vw} {n : Nat} {G : Store} {H : Hp}
theorem Reps.at {l : List Val} {xs : List V} {i : Int} {v : Val} (r : Reps K ι n H l xs) (h : atL l i = some v) : ∃ x, L2.atI xs i = some x ∧ Rep K ι n H v x := by
  unfold atL L2.atI at *
  rw [r.length]
  cases e : ixN l.length i with
  | none => rw [e] at h; cases h
  | some j =>
    rw [e] at h
    exact r.get h
theorem key_rep {v : Val} {x : V} {k : Ky} (r : Rep K ι n H v x) (h : keyOf v = some k) : x = kV (kyOf k) := by
  cases v with
  | int i => cases h; exact r
  | str s => cases h; exact r
  | _ => cases h
theorem kyOf_dec (a b : Ky) : decide (kyOf a = kyOf b) = decide (a = b) := by
  by_cases h : a = b
  · rw [h, decide_eq_true rfl, decide_eq_true rfl]
  · rw [decide_eq_false h, decide_eq_false fun q => h (kyOf_inj q)]
theorem KReps.val {k : Ky} : ∀ {l : List (Ky × Val)} {xs : List (Key × V)}, KReps K ι n H l xs → (∀ v, lookK l k = some v → ∃ x, valV xs (kyOf k) = some x ∧ Rep K ι n H v x) ∧ (lookK l k = none → valV xs (kyOf k) = none)
  | [], _, h => by
    rw [show _ = [] from h]
    exact ⟨fun v e => (by cases e), fun _ => rfl⟩
  | q :: l, _, ⟨y, ys, h1, h2, h3⟩ => by
    rw [h1]
    unfold lookK valV
    rw [List.find?_cons, List.find?_cons]
    show (∀ v, Option.map (·.2) (match decide (q.1 = k) with | true => some q | false => l.find? fun kv => decide (kv.1 = k)) = some v → _) ∧ _
    have ed : decide (((kyOf q.1, y) : Key × V).1 = kyOf k) = decide (q.1 = k) := kyOf_dec q.1 k
    rw [ed]
    cases decide (q.1 = k) with
    | true => exact ⟨fun v e => ⟨y, rfl, (by cases e; exact h2)⟩, fun e => (by cases e)⟩
    | false => exact KReps.val h3
theorem s_ixS : OpS K E (fun x y H Q => rIxL K x y H Q ∨ rIxT K x y H Q) fIxS := by
  intro ι G H v u x y Q S rx ry p
  unfold fIxS at p
  cases u with
  | int i =>
    cases e1 : itemsOf G v with
    | none => rw [e1] at p; exact p.elim
    | some l =>
      rw [e1] at p
      have p2 : Post K E ι G.length H (match atL l i with | some w => .ok w G | none => .bad) (fun ι' G' H' w => ∀ z, Rep K ι' G'.length H' w z → Q z H') := p
      cases e2 : atL l i with
      | none => rw [e2] at p2; exact p2.elim
      | some w =>
        rw [e2] at p2
        obtain ⟨a, ys, ex, h1, h2⟩ := items_at S rx e1
        obtain ⟨z, ez, rz⟩ := h2.at e2
        rcases h1 with h1 | h1
        · exact .inl ⟨a, ys, i, z, ex, ry, h1, ez, p2.here S _ rz⟩
        · exact .inr ⟨a, ys, i, z, ex, ry, h1, ez, p2.here S _ rz⟩
  | _ => exact p.elim
end
section
variable {X : Cx} {E : XK} {a b : Expr} {ma mb : EM} {pos : Pos}
theorem pe_orE {e : Expr} {t t' : TE} (h : PE X e t) (h' : PE X e t') : PE X e (fun σ H Q => t σ H Q ∨ t' σ H Q) := ⟨fun pins s σ H Q I q => q.elim (h.run pins s σ H Q I) (h'.run pins s σ H Q I)⟩
theorem re_orE {e : Expr} {m m' : EM} (h : RE X E e m) (h' : RE X E e m') : RE X E e (fun ρ G => match m ρ G with | .bad => m' ρ G | r => r) := by
  refine pe_weak (pe_orE h h') fun σ H Q ⟨ι, G, ρ, S, sl, p⟩ => ?_
  cases e1 : m ρ G with
  | bad =>
    simp only [e1] at p
    exact .inr ⟨ι, G, ρ, S, sl, p⟩
  | ok v G' =>
    simp only [e1] at p
    exact .inl ⟨ι, G, ρ, S, sl, by rw [e1]; exact p⟩
  | exc c G' =>
    simp only [e1] at p
    exact .inl ⟨ι, G, ρ, S, sl, by rw [e1]; exact p⟩
/-- a list's or tuple's item -/
theorem re_ix (ha : RE X E a ma) (hb : RE X E b mb) (hs : PlainIx b := by intro _ _; rfl) : RE X E (.Subscript a b pos) (eOp fIxS ma mb) :=
  pe_weak (pe_ix (ix_list.or ix_tup) ha hb hs) fun σ H Q h => two h fun ι G H' v u x y S rx ry p => s_ixS ι G H' v u x y Q S rx ry p
/-- a dict's value -/
theorem re_ixD (hu : X.A.units + 64 < cLine) (ha : RE X E a ma) (hb : RE X E b mb) (hs : NoSl b := by intro _ _; rfl) : RE X E (.Subscript a b pos) (eOp fIxD ma mb) := by
  refine pe_weak (pe_dget (by omega) ha hb hs) fun σ H Q h => two h fun ι G H' v u x y S rx ry p => ?_
  unfold fIxD at p
  cases e1 : dicOf G v with
  | none => rw [e1] at p; exact p.elim
  | some l =>
    cases e2 : keyOf u with
    | none => rw [e1, e2] at p; exact p.elim
    | some k =>
      rw [e1, e2] at p
      dsimp only at p
      cases e3 : lookK l k with
      | none => rw [e3] at p; exact p.elim
      | some w =>
        rw [e3] at p
        obtain ⟨a, xs, ex, h1, h2⟩ := dicOf_at S rx e1
        obtain ⟨z, ez, rz⟩ := h2.val.1 w e3
        exact ⟨a, z, ex, .inl ⟨xs, kyOf k, h1, key_rep ry e2, ez.symm⟩, p.here S _ rz⟩
end

/-! ### slices -/
def cutL (l : List Val) (lo hi : Option Int) : List Val := (l.drop (HT.sIx l.length 0 lo)).take (HT.sIx l.length l.length hi - HT.sIx l.length 0 lo)
abbrev OM := Env1 → Store → Res (Option Int)
def oNone : OM := fun _ G => .ok none G
def oSome (m : EM) : OM := fun ρ G => (m ρ G).bind fun v G1 => match v with
  | .int i => .ok (some i) G1
  | _ => .bad
def fSl (z : Bool) : Val → Option Int → Option Int → Store → Res Val := fun v lo hi G => match v with
  | .tup l => .ok (.tup (cutL l lo hi)) G
  | _ => (match lstOf G v with
    | some l => mkL z (cutL l lo hi) G
    | none => .bad)
def eSl (z : Bool) (m : EM) (lo hi : OM) : EM := fun ρ G => (m ρ G).bind fun v G1 => (lo ρ G1).bind fun l G2 => (hi ρ G2).bind fun u G3 => fSl z v l u G3
section
variable {K : PySem.W.Frag} {E : XK} {ι : Vw} {n : Nat} {G : Store} {H : Hp}
theorem Reps.cut {l : List Val} {xs : List V} (r : Reps K ι n H l xs) (lo hi : Option Int) : Reps K ι n H (cutL l lo hi) (cutV xs lo hi) := by
  unfold cutL cutV
  rw [r.length]
  exact (r.drop _).take _
end
section
variable {X : Cx} {E : XK} {e : Expr} {me : EM} {lo hi : Option Expr} {ml mh : OM} {p2 pos : Pos}
abbrev tO (K : PySem.W.Frag) (E : XK) (m : OM) : TO := fun σ H Q => ∃ ι G ρ, Sim K ι G H ∧ Slots K ι G.length H ρ σ ∧ Post K E ι G.length H (m ρ G) fun ι' G' H' o => Q o H'
abbrev RO (X : Cx) (E : XK) (e : Option Expr) (m : OM) : Prop := PO X e (tO X.K E m)
theorem po_weak {e : Option Expr} {t t' : TO} (h : PO X e t) (w : ∀ σ H Q, t' σ H Q → t σ H Q) : PO X e t' := ⟨fun pins s σ H Q I q => h.run pins s σ H Q I (w σ H Q q)⟩
theorem ro_none : RO X E none oNone := po_weak po_none fun σ H Q ⟨ι, G, ρ, S, sl, p⟩ => p.here S
theorem ro_some (h : RE X E e me) : RO X E (some e) (oSome me) := by
  refine po_weak (po_some h) fun σ H Q ⟨ι, G, ρ, S, sl, p⟩ => run1 S sl ((Post.bind p).mono fun ι1 G1 H1 v x1 S1 p1 x rx => ?_)
  cases v with
  | int i => exact ⟨i, rx, p1.here S1⟩
  | _ => exact p1.elim
theorem re_sl {z : Bool} (he : RE X E e me) (hl : RO X E lo ml) (hh : RO X E hi mh) : RE X E (.Subscript e (.Slice lo hi none p2) pos) (eSl z me ml mh) := by
  refine pe_weak (pe_slice (sl_list.or sl_tupA) he hl hh) fun σ H Q ⟨ι, G, ρ, S, sl, p⟩ => run1 S sl ((Post.bind p).mono fun ι1 G1 H1 v x1 S1 q1 x rx => ⟨ι1, G1, ρ, S1, sl.ext x1, (Post.bind q1).mono fun ι2 G2 H2 l x2 S2 q2 => ⟨ι2, G2, ρ, S2, sl.ext (x1.trans x2), (Post.bind q2).mono fun ι3 G3 H3 u x3 S3 q3 => ?_⟩⟩)
  have r3 := rx.ext (x2.trans x3)
  unfold fSl at q3
  cases v with
  | tup m =>
    obtain ⟨a, xs, ex, h1, h2⟩ := r3
    refine .inr ⟨a, xs, ex, h1, fun hw => ?_, fun hw => post_tup S3 (h2.cut l u) q3⟩
    have e : cutL m l u = m := by
      unfold cutL
      rw [h2.length] at hw
      rw [hw.1, hw.2, List.drop_zero, Nat.sub_zero, List.take_length]
    have q4 : Post X.K E ι3 G3.length H3 (.ok (.tup (cutL m l u)) G3) (fun ι' G' H' v => ∀ x, Rep X.K ι' G'.length H' v x → Q x H') := q3
    rw [e] at q4
    exact q4.here S3 _ ⟨a, xs, rfl, h1, h2⟩
  | fro m =>
    obtain ⟨a, xs, ex, h1, h2⟩ := r3
    exact .inl ⟨a, xs, ex, h1.l, post_mkL (z := z) S3 (h2.cut l u) q3⟩
  | obj i =>
    cases e1 : lstOf G3 (.obj i) with
    | none => simp only [e1] at q3; exact q3.elim
    | some m =>
      simp only [e1] at q3
      obtain ⟨a, ys, ex, h1, h2⟩ := lstOf_at S3 r3 e1
      exact .inl ⟨a, ys, ex, .of h1, post_mkL S3 (h2.cut l u) q3⟩
  | _ => exact q3.elim
end

/-! ### fields -/
/-- the place of the field f in the class c -/
def eFld (m : EM) (places : List (Nat × Nat)) : EM := fun ρ G => (m ρ G).bind fun v G1 => match v with
  | .obj i => (match G1[i]? with
    | some (.ins c vs) => (match (places.lookup c).bind fun p => vs[p]? with
      | some w => .ok w G1
      | none => .bad)
    | _ => .bad)
  | _ => .bad
/-- the places say where f stands -/
def PlOk (f : Str) (places : List (Nat × Nat)) : Prop := ∀ q ∈ places, (cfields q.1)[q.2]? = some f
theorem lookup_mem {α β : Type} [BEq α] [LawfulBEq α] {k : α} {v : β} : ∀ {l : List (α × β)}, l.lookup k = some v → (k, v) ∈ l
  | [], h => by cases h
  | q :: l, h => by
    rw [List.lookup_cons] at h
    cases e : (k == q.1) with
    | true =>
      rw [e] at h
      cases h
      rw [eq_of_beq e]
      exact List.mem_cons_self ..
    | false =>
      rw [e] at h
      exact List.mem_cons_of_mem _ (lookup_mem h)
section
variable {X : Cx} {E : XK} {e : Expr} {me : EM} {f : Str} {pos : Pos} {pl : List (Nat × Nat)}
theorem re_fld (he : RE X E e me) (hp : PlOk f pl) (hb : attributeBase e f X.env (eval e X.env) = eval e X.env := by rfl) : RE X E (.Attribute e f pos) (eFld me pl) := by
  refine pe_weak (pe_fld he hb) fun σ H Q ⟨ι, G, ρ, S, sl, p⟩ => run1 S sl ((Post.bind p).mono fun ι1 G1 H1 v x1 S1 p1 x rx => ?_)
  cases v with
  | obj i =>
    cases e1 : G1[i]? with
    | none => simp only [e1] at p1; exact p1.elim
    | some o =>
      simp only [e1] at p1
      cases o with
      | ins c vs =>
        have p2 : Post X.K E ι1 G1.length H1 (match (pl.lookup c).bind fun p => vs[p]? with | some w => .ok w G1 | none => .bad) (fun ι' G' H' w => ∀ z, Rep X.K ι' G'.length H' w z → Q z H') := p1
        cases e2 : pl.lookup c with
        | none => rw [e2] at p2; exact p2.elim
        | some k =>
          rw [e2] at p2
          cases e3 : vs[k]? with
          | none =>
            have p3 : Post X.K E ι1 G1.length H1 (match vs[k]? with | some w => .ok w G1 | none => .bad) (fun ι' G' H' w => ∀ z, Rep X.K ι' G'.length H' w z → Q z H') := p2
            rw [e3] at p3
            exact p3.elim
          | some w =>
            have p3 : Post X.K E ι1 G1.length H1 (match vs[k]? with | some w => .ok w G1 | none => .bad) (fun ι' G' H' w => ∀ z, Rep X.K ι' G'.length H' w z → Q z H') := p2
            rw [e3] at p3
            have hf : (cfields c)[k]? = some f := hp (c, k) (lookup_mem e2)
            obtain ⟨ck, dx, gs, h1, h2⟩ := S1.ins e1
            obtain ⟨y, ey, ry⟩ := h2.look (fields_ok c).1 hf e3
            exact ⟨ι1 i, _, dx, gs, y, rx.2, h1, ck.cls, ck.fld f (List.mem_of_getElem? hf), ey, p3.here S1 _ ry⟩
      | _ => exact p1.elim
  | _ => exact p1.elim
end

/-! ### built-in functions -/
abbrev F1 := List Val → Store → Res Val
def CallS (K : PySem.W.Frag) (E : XK) (r : List V → Hp → VK → Prop) (f : F1) : Prop := ∀ (ι : Vw) (G : Store) (H : Hp) (vs : List Val) (xs : List V) (Q : VK), Sim K ι G H → Reps K ι G.length H vs xs →
  Post K E ι G.length H (f vs G) (fun ι' G' H' w => ∀ z, Rep K ι' G'.length H' w z → Q z H') → r xs H Q
def eCall (f : F1) (k : AM) : EM := fun ρ G => (k ρ G).bind fun vs G1 => f vs G1
def orF1 (f g : F1) : F1 := fun vs G => match f vs G with
  | .bad => g vs G
  | r => r
theorem CallR.or1 {X : Cx} {f : Value} {r r' : List V → Hp → VK → Prop} (h : CallR X f r) (h' : CallR X f r') : CallR X f (fun xs H Q => r xs H Q ∨ r' xs H Q) := fun pins s σ H xs us Q I rx q => q.elim (h pins s σ H xs us Q I rx) (h' pins s σ H xs us Q I rx)
theorem CallS.or {K : PySem.W.Frag} {E : XK} {r r' : List V → Hp → VK → Prop} {f g : F1} (h : CallS K E r f) (h' : CallS K E r' g) : CallS K E (fun xs H Q => r xs H Q ∨ r' xs H Q) (orF1 f g) := by
  intro ι G H vs xs Q S r p
  unfold orF1 at p
  cases e : f vs G with
  | bad =>
    rw [e] at p
    exact .inr (h' ι G H vs xs Q S r p)
  | ok w G' =>
    rw [e] at p
    exact .inl (h ι G H vs xs Q S r (by rw [e]; exact p))
  | exc c G' =>
    rw [e] at p
    exact .inl (h ι G H vs xs Q S r (by rw [e]; exact p))
section
variable {X : Cx} {E : XK} {e : Expr} {es : List Expr} {mes : AM} {x : Str} {p pos : Pos}
theorem re_callB {id : String} {r : List V → Hp → VK → Prop} {f : F1} (hc : CallR X (.builtin id) r) (hf : CallS X.K E r f) (hg : Gl X x) (hm : X.mg x = none) (hv : bootBuiltins x = some (.builtin id)) (ha : RA X E (e :: es) mes) (hn : x ≠ "__name__" := by decide) (hdb : (x == ("__debug__" : Str)) = false := by decide)
    (he : starEach (e :: es) X.env = (false, eval e X.env) :: starEach es X.env := by rfl) (hpl : (backTo pos (starEach es X.env)).any (·.1) = false := by rfl) : RE X E (.Call (.Name x p) (e :: es) [] pos) (eCall f mes) :=
  pe_weak (pe_callB hc hg hm hv ha hn hdb he hpl) fun σ H Q ⟨ι, G, ρ, S, sl, q⟩ => ⟨ι, G, ρ, S, sl, (Post.bind q).mono fun ι1 G1 H1 vs x1 S1 p1 xs rx => hf ι1 G1 H1 vs xs Q S1 rx p1⟩
theorem re_callTy {T : String} {r : List V → Hp → VK → Prop} {f : F1} (hc : CallR X (.type T) r) (hf : CallS X.K E r f) (hg : Gl X x) (hm : X.mg x = none) (hv : bootBuiltins x = some (.type T)) (ha : RA X E (e :: es) mes) (hn : x ≠ "__name__" := by decide) (hdb : (x == ("__debug__" : Str)) = false := by decide)
    (he : starEach (e :: es) X.env = (false, eval e X.env) :: starEach es X.env := by rfl) (hpl : (backTo pos (starEach es X.env)).any (·.1) = false := by rfl) : RE X E (.Call (.Name x p) (e :: es) [] pos) (eCall f mes) :=
  pe_weak (pe_callTy hc hg hm hv ha hn hdb he hpl) fun σ H Q ⟨ι, G, ρ, S, sl, q⟩ => ⟨ι, G, ρ, S, sl, (Post.bind q).mono fun ι1 G1 H1 vs x1 S1 p1 xs rx => hf ι1 G1 H1 vs xs Q S1 rx p1⟩
end
def bLen : F1 := fun vs G => match vs with
  | [v] => (match itemsOf G v with
    | some l => .ok (.int l.length) G
    | none => .bad)
  | _ => .bad
def bInt : F1 := fun vs G => match vs with
  | [.int i] => .ok (.int i) G
  | [.bl b] => .ok (.int (if b then 1 else 0)) G
  | _ => .bad
def bAbs : F1 := fun vs G => match vs with
  | [.int i] => .ok (.int (if i < 0 then -i else i)) G
  | _ => .bad
def bMax : F1 := fun vs G => match vs with
  | [.int i, .int j] => .ok (.int (if j > i then j else i)) G
  | _ => .bad
def bMin : F1 := fun vs G => match vs with
  | [.int i, .int j] => .ok (.int (if j < i then j else i)) G
  | _ => .bad
def bList (z : Bool) : F1 := fun vs G => match vs with
  | [v] => (match itemsOf G v with
    | some l => mkL z l G
    | none => .bad)
  | _ => .bad
def bTuple : F1 := fun vs G => match vs with
  | [v] => (match itemsOf G v with
    | some l => .ok (.tup l) G
    | none => .bad)
  | _ => .bad
def asInts : List Val → Option (List Int)
  | [] => some []
  | .int i :: l => (asInts l).map (i :: ·)
  | _ :: _ => none
def asBls : List Val → Option (List Bool)
  | [] => some []
  | .bl i :: l => (asBls l).map (i :: ·)
  | _ :: _ => none
def sortI (l : List Int) : List Int := l.mergeSort fun a b => decide (a ≤ b)
def bAll : F1 := fun vs G => match vs with
  | [v] => (match (itemsOf G v).bind asBls with
    | some l => .ok (.bl (l.all id)) G
    | none => .bad)
  | _ => .bad
def bAny : F1 := fun vs G => match vs with
  | [v] => (match (itemsOf G v).bind asBls with
    | some l => .ok (.bl (l.any id)) G
    | none => .bad)
  | _ => .bad
section
variable {K : PySem.W.Frag} {E : XK} {ι : Vw} {n : Nat} {G : Store} {H : Hp}
theorem reps1 {v : Val} {xs : List V} (r : Reps K ι n H [v] xs) : ∃ x, xs = [x] ∧ Rep K ι n H v x := by
  obtain ⟨y, ys, h1, h2, h3⟩ := r
  rw [show ys = [] from h3] at h1
  exact ⟨y, h1, h2⟩
theorem reps2 {v w : Val} {xs : List V} (r : Reps K ι n H [v, w] xs) : ∃ x y, xs = [x, y] ∧ Rep K ι n H v x ∧ Rep K ι n H w y := by
  obtain ⟨y, ys, h1, h2, z, zs, h3, h4, h5⟩ := r
  rw [show zs = [] from h5] at h3
  rw [h3] at h1
  exact ⟨y, z, h1, h2, h4⟩
theorem reps_ints : ∀ {l : List Val} {ns : List Int} {xs : List V}, asInts l = some ns → Reps K ι n H l xs → xs = ns.map V.int
  | [], ns, xs, h, r => by
    cases h
    exact r
  | v :: l, ns, xs, h, ⟨y, ys, h1, h2, h3⟩ => by
    cases v with
    | int i =>
      have h0 : (asInts l).map (i :: ·) = some ns := h
      cases e : asInts l with
      | none => rw [e] at h0; cases h0
      | some ms =>
        rw [e] at h0
        cases h0
        rw [h1, show y = V.int i from h2, reps_ints e h3]
        rfl
    | _ => cases h
theorem reps_bls : ∀ {l : List Val} {ns : List Bool} {xs : List V}, asBls l = some ns → Reps K ι n H l xs → xs = ns.map V.bl
  | [], ns, xs, h, r => by
    cases h
    exact r
  | v :: l, ns, xs, h, ⟨y, ys, h1, h2, h3⟩ => by
    cases v with
    | bl i =>
      have h0 : (asBls l).map (i :: ·) = some ns := h
      cases e : asBls l with
      | none => rw [e] at h0; cases h0
      | some ms =>
        rw [e] at h0
        cases h0
        rw [h1, show y = V.bl i from h2, reps_bls e h3]
        rfl
    | _ => cases h
theorem ints_reps : ∀ ns : List Int, Reps K ι n H (ns.map Val.int) (ns.map V.int)
  | [] => rfl
  | i :: ns => ⟨.int i, ns.map V.int, rfl, rfl, ints_reps ns⟩
theorem sortI_uniq {l m : List Int} (hp : m.Perm l) (hs : m.Pairwise (· ≤ ·)) : m = sortI l := by
  have h1 : (sortI l).Pairwise (· ≤ ·) := by
    have h := List.pairwise_mergeSort (le := fun a b : Int => decide (a ≤ b)) (fun a b c h1 h2 => by simp at *; omega) (fun a b => by simp; omega) l
    exact h.imp fun h => of_decide_eq_true h
  have h2 : (sortI l).Perm l := List.mergeSort_perm l _
  exact (hp.trans h2.symm).eq_of_pairwise (fun a b _ _ h1 h2 => Int.le_antisymm h1 h2) hs h1
theorem bs_len {r : List V → Hp → VK → Prop} (h : ∀ x n H Q, LenV K x H n → Q (.int n) H → r [x] H Q) : CallS K E r bLen := by
  intro ι G H vs xs Q S rs p
  unfold bLen at p
  cases vs with
  | nil => exact p.elim
  | cons v l =>
    cases l with
    | cons _ _ => exact p.elim
    | nil =>
      cases e : itemsOf G v with
      | none => simp only [e] at p; exact p.elim
      | some l =>
        simp only [e] at p
        obtain ⟨x, rfl, rx⟩ := reps1 rs
        obtain ⟨a, ys, ex, h1, h2⟩ := items_at S rx e
        refine h x l.length H Q ?_ (p.here S _ rfl)
        rw [ex, ← h2.length]
        rcases h1 with h1 | h1
        · exact .inl ⟨ys, h1, rfl⟩
        · exact .inr ⟨ys, h1, rfl⟩
theorem s_len {X : Cx} : CallS X.K E (fun xs H Q => ∃ x n, xs = [x] ∧ LenV X.K x H n ∧ Q (.int n) H) bLen := bs_len fun x n H Q h q => ⟨x, n, rfl, h, q⟩
theorem s_int : CallS K E (fun xs H Q => (∃ i, xs = [.int i] ∧ Q (.int i) H) ∨ ∃ k, xs = [.bl k] ∧ Q (.int (if k then 1 else 0)) H) bInt := by
  intro ι G H vs xs Q S rs p
  unfold bInt at p
  cases vs with
  | nil => exact p.elim
  | cons v l =>
    cases l with
    | cons _ _ => cases v <;> exact p.elim
    | nil =>
      obtain ⟨x, rfl, rx⟩ := reps1 rs
      cases v with
      | int i => exact .inl ⟨i, by rw [show x = V.int i from rx], p.here S _ rfl⟩
      | bl b => exact .inr ⟨b, by rw [show x = V.bl b from rx], p.here S _ rfl⟩
      | _ => exact p.elim
theorem s_abs : CallS K E (fun xs H Q => ∃ i, xs = [.int i] ∧ Q (.int (if i < 0 then -i else i)) H) bAbs := by
  intro ι G H vs xs Q S rs p
  unfold bAbs at p
  cases vs with
  | nil => exact p.elim
  | cons v l =>
    cases l with
    | cons _ _ => cases v <;> exact p.elim
    | nil =>
      obtain ⟨x, rfl, rx⟩ := reps1 rs
      cases v with
      | int i => exact ⟨i, by rw [show x = V.int i from rx], p.here S _ rfl⟩
      | _ => exact p.elim
theorem two_ints {vs : List Val} {xs : List V} {g : Int → Int → Int} {f : F1} {Q : VK} (hf : ∀ vs G, f vs G = match vs with | [.int i, .int j] => .ok (.int (g i j)) G | _ => .bad) (S : Sim K ι G H) (rs : Reps K ι G.length H vs xs)
    (p : Post K E ι G.length H (f vs G) (fun ι' G' H' w => ∀ z, Rep K ι' G'.length H' w z → Q z H')) : ∃ i j, xs = [.int i, .int j] ∧ Q (.int (g i j)) H := by
  rw [hf] at p
  cases vs with
  | nil => exact p.elim
  | cons v l =>
    cases l with
    | nil => cases v <;> exact p.elim
    | cons w m =>
      cases m with
      | cons _ _ => cases v <;> (try exact p.elim) <;> (cases w <;> exact p.elim)
      | nil =>
        obtain ⟨x, y, rfl, rx, ry⟩ := reps2 rs
        cases v with
        | int i =>
          cases w with
          | int j => exact ⟨i, j, by rw [show x = V.int i from rx, show y = V.int j from ry], p.here S _ rfl⟩
          | _ => exact p.elim
        | _ => exact p.elim
theorem s_max : CallS K E (fun xs H Q => ∃ i j, xs = [.int i, .int j] ∧ Q (.int (if j > i then j else i)) H) bMax := fun ι G H vs xs Q S rs p => two_ints (g := fun i j => if j > i then j else i) (fun vs G => rfl) S rs p
theorem s_min : CallS K E (fun xs H Q => ∃ i j, xs = [.int i, .int j] ∧ Q (.int (if j < i then j else i)) H) bMin := fun ι G H vs xs Q S rs p => two_ints (g := fun i j => if j < i then j else i) (fun vs G => rfl) S rs p
/-- one argument that is a list or a tuple -/
theorem one_seq {vs : List Val} {xs : List V} {β : Type} {g : List Val → Option β} {k : β → Store → Res Val} {f : F1} {Q : VK} (hf : ∀ vs G, f vs G = match vs with | [v] => (match (itemsOf G v).bind g with | some l => k l G | none => .bad) | _ => .bad) (S : Sim K ι G H) (rs : Reps K ι G.length H vs xs)
    (p : Post K E ι G.length H (f vs G) (fun ι' G' H' w => ∀ z, Rep K ι' G'.length H' w z → Q z H')) : ∃ a ys l b, xs = [.ref a] ∧ (SqL K H a ys ∨ SqT K H a ys) ∧ Reps K ι G.length H l ys ∧ g l = some b ∧ Post K E ι G.length H (k b G) (fun ι' G' H' w => ∀ z, Rep K ι' G'.length H' w z → Q z H') := by
  rw [hf] at p
  cases vs with
  | nil => exact p.elim
  | cons v l =>
    cases l with
    | cons _ _ => exact p.elim
    | nil =>
      have p2 : Post K E ι G.length H (match (itemsOf G v).bind g with | some l => k l G | none => .bad) (fun ι' G' H' w => ∀ z, Rep K ι' G'.length H' w z → Q z H') := p
      cases e : itemsOf G v with
      | none => rw [e] at p2; exact p2.elim
      | some l =>
        rw [e] at p2
        cases e2 : g l with
        | none =>
          have p3 : Post K E ι G.length H (match g l with | some l => k l G | none => .bad) (fun ι' G' H' w => ∀ z, Rep K ι' G'.length H' w z → Q z H') := p2
          rw [e2] at p3
          exact p3.elim
        | some b =>
          have p3 : Post K E ι G.length H (match g l with | some l => k l G | none => .bad) (fun ι' G' H' w => ∀ z, Rep K ι' G'.length H' w z → Q z H') := p2
          rw [e2] at p3
          obtain ⟨x, rfl, rx⟩ := reps1 rs
          obtain ⟨a, ys, ex, h1, h2⟩ := items_at S rx e
          exact ⟨a, ys, l, b, by rw [ex], h1, h2, e2, p3⟩
theorem bind_some {α : Type} (o : Option α) : o.bind some = o := by cases o <;> rfl
theorem s_list {z : Bool} : CallS K E (fun xs H Q => ∃ p ys, xs = [.ref p] ∧ (SqL K H p ys ∨ SqT K H p ys) ∧ ∀ l, H l = none → Q (.ref l) (L2.upd H l (.lst ys))) (bList z) := fun ι G H vs xs Q S rs p => by
  obtain ⟨a, ys, l, b, e, h1, h2, h3, p2⟩ := one_seq (g := some) (k := fun l G => mkL z l G) (f := bList z) (fun vs G => by unfold bList; cases vs with | nil => rfl | cons v l => cases l with | nil => (simp only [bind_some]; cases itemsOf G v <;> rfl) | cons _ _ => rfl) S rs p
  cases h3
  exact ⟨a, ys, e, h1, post_mkL S h2 p2⟩
theorem s_tuple : CallS K E (fun xs H Q => ∃ p ys, xs = [.ref p] ∧ ((SqL K H p ys ∧ ∀ l, H l = none → Q (.ref l) (L2.upd H l (.tup ys))) ∨ (SqT K H p ys ∧ Q (.ref p) H))) bTuple := fun ι G H vs xs Q S rs p => by
  obtain ⟨a, ys, l, b, e, h1, h2, h3, p2⟩ := one_seq (g := some) (k := fun l G => .ok (.tup l) G) (f := bTuple) (fun vs G => by unfold bTuple; cases vs with | nil => rfl | cons v l => cases l with | nil => (simp only [bind_some]; cases itemsOf G v <;> rfl) | cons _ _ => rfl) S rs p
  cases h3
  refine ⟨a, ys, e, ?_⟩
  rcases h1 with h1 | h1
  · exact .inl ⟨h1, post_tup S h2 p2⟩
  · exact .inr ⟨h1, p2.here S _ ⟨a, ys, rfl, h1, h2⟩⟩
end
end R1

/-! R1d: statements, targets, calls of defs, methods and classes. -/
namespace R1
open PySem PySem.Spec PyProof.Rows L2

inductive SR where
  | next (ρ : Env1) (G : Store) | ret (v : Val) (G : Store) | brk (ρ : Env1) (G : Store) | cont (ρ : Env1) (G : Store) | exc (c : Str) (G : Store) | bad
abbrev SM := Env1 → Store → SR
def SR.andThen (r : SR) (f : SM) : SR := match r with
  | .next ρ G => f ρ G
  | r => r
def Res.toS {α : Type} (r : Res α) (f : α → Store → SR) : SR := match r with
  | .ok a G => f a G
  | .exc c G => .exc c G
  | .bad => .bad
section
variable (K : PySem.W.Frag) (E : XK) (ι : Vw) (n : Nat) (H : Hp)
def SPost (r : SR) (D : Ends) : Prop := match r with
  | .next ρ' G' => ∀ ι' H' σ', Ext K ι n H ι' G'.length H' → Sim K ι' G' H' → Slots K ι' G'.length H' ρ' σ' → D.nx σ' H'
  | .ret v G' => ∀ ι' H' x, Ext K ι n H ι' G'.length H' → Sim K ι' G' H' → Rep K ι' G'.length H' v x → D.rt x H'
  | .brk ρ' G' => ∀ ι' H' σ', Ext K ι n H ι' G'.length H' → Sim K ι' G' H' → Slots K ι' G'.length H' ρ' σ' → D.bk σ' H'
  | .cont ρ' G' => ∀ ι' H' σ', Ext K ι n H ι' G'.length H' → Sim K ι' G' H' → Slots K ι' G'.length H' ρ' σ' → D.ct σ' H'
  | .exc c G' => ∀ ι' H', Ext K ι n H ι' G'.length H' → Sim K ι' G' H' → E (.ref (He.ga K c)) none H'
  | .bad => False
end
def tS (K : PySem.W.Frag) (E : XK) (m : SM) : TS := fun D σ H => ∃ ι G ρ, Sim K ι G H ∧ Slots K ι G.length H ρ σ ∧ SPost K E ι G.length H (m ρ G) D
abbrev RS (X : Cx) (E : XK) (st : Stmt) (m : SM) : Prop := PS X st (tS X.K E m)
abbrev RSs (X : Cx) (E : XK) (st : List Stmt) (m : SM) : Prop := PSs X st (tS X.K E m)
section
variable {K : PySem.W.Frag} {E : XK} {ι ι' : Vw} {n n' : Nat} {H H' : Hp}
theorem SPost.ext {r : SR} {D : Ends} (x : Ext K ι n H ι' n' H') (h : SPost K E ι n H r D) : SPost K E ι' n' H' r D := by
  cases r with
  | next ρ' G' => exact fun ι2 H2 σ2 e s l => h ι2 H2 σ2 (x.trans e) s l
  | ret v G' => exact fun ι2 H2 σ2 e s l => h ι2 H2 σ2 (x.trans e) s l
  | brk ρ' G' => exact fun ι2 H2 σ2 e s l => h ι2 H2 σ2 (x.trans e) s l
  | cont ρ' G' => exact fun ι2 H2 σ2 e s l => h ι2 H2 σ2 (x.trans e) s l
  | exc c G' => exact fun ι2 H2 e s => h ι2 H2 (x.trans e) s
  | bad => exact h
theorem SPost.seq {r : SR} {f : SM} {D : Ends} (h : SPost K E ι n H (r.andThen f) D) : SPost K E ι n H r { D with nx := tS K E f D } := by
  cases r with
  | next ρ' G' => exact fun ι2 H2 σ2 e s l => ⟨ι2, G', ρ', s, l, SPost.ext e h⟩
  | ret v G' => exact h
  | brk ρ' G' => exact h
  | cont ρ' G' => exact h
  | exc c G' => exact h
  | bad => exact h
theorem SPost.ofRes {α : Type} {r : Res α} {f : α → Store → SR} {D : Ends} (h : SPost K E ι n H (r.toS f) D) : Post K E ι n H r fun ι' G' H' v => SPost K E ι' G'.length H' (f v G') D := by
  cases r with
  | ok v G' => exact fun ι' H' e s => SPost.ext e h
  | exc c G' => exact h
  | bad => exact h
/-- another end that is reached from the first -/
theorem SPost.to {r : SR} {D D' : Ends} (h : SPost K E ι n H r D) (h1 : ∀ σ H, D.nx σ H → D'.nx σ H) (h2 : ∀ x H, D.rt x H → D'.rt x H) (h3 : ∀ σ H, D.bk σ H → D'.bk σ H) (h4 : ∀ σ H, D.ct σ H → D'.ct σ H) : SPost K E ι n H r D' := by
  cases r with
  | next ρ' G' => exact fun ι2 H2 σ2 e s l => h1 _ _ (h ι2 H2 σ2 e s l)
  | ret v G' => exact fun ι2 H2 σ2 e s l => h2 _ _ (h ι2 H2 σ2 e s l)
  | brk ρ' G' => exact fun ι2 H2 σ2 e s l => h3 _ _ (h ι2 H2 σ2 e s l)
  | cont ρ' G' => exact fun ι2 H2 σ2 e s l => h4 _ _ (h ι2 H2 σ2 e s l)
  | exc c G' => exact h
  | bad => exact h
end

/-! ### small statements -/
def sPass : SM := fun ρ G => .next ρ G
def sSeq (a b : SM) : SM := fun ρ G => (a ρ G).andThen b
def sEx (m : EM) : SM := fun ρ G => (m ρ G).toS fun _ G1 => .next ρ G1
def sRet (m : EM) : SM := fun ρ G => (m ρ G).toS fun v G1 => .ret v G1
def sRetN : SM := fun _ G => .ret .non G
def sBrk : SM := fun ρ G => .brk ρ G
def sCont : SM := fun ρ G => .cont ρ G
def sIf (t : TM) (a b : SM) : SM := fun ρ G => (t ρ G).toS fun k G1 => if k = true then a ρ G1 else b ρ G1
def sSet (i : Nat) (m : EM) : SM := fun ρ G => (m ρ G).toS fun v G1 => .next (ρ.set i (some v)) G1
section
variable {X : Cx} {E : XK} {st : Stmt} {rest : List Stmt} {m k : SM} {e c : Expr} {me : EM} {mt : TM} {pos : Pos}
theorem rs_nil : RSs X E [] sPass := pss_weak pss_nil fun D σ H ⟨ι, G, ρ, S, sl, p⟩ => p ι H σ .refl S sl
theorem rs_one (h : RS X E st m) : RSs X E [st] m := pss_one h
theorem rs_cons (h1 : RS X E st m) (h2 : RSs X E rest k) : RSs X E (st :: rest) (sSeq m k) := pss_weak (pss_cons h1 h2) fun D σ H ⟨ι, G, ρ, S, sl, p⟩ => ⟨ι, G, ρ, S, sl, p.seq⟩
theorem rs_pass : RS X E (.Pass pos) sPass := ps_weak ps_pass fun D σ H ⟨ι, G, ρ, S, sl, p⟩ => p ι H σ .refl S sl
theorem rs_break : RS X E (.Break pos) sBrk := ps_weak ps_break fun D σ H ⟨ι, G, ρ, S, sl, p⟩ => p ι H σ .refl S sl
theorem rs_cont : RS X E (.Continue pos) sCont := ps_weak ps_continue fun D σ H ⟨ι, G, ρ, S, sl, p⟩ => p ι H σ .refl S sl
theorem rs_ex (h : RE X E e me) (hs : swapsWith e none pos.line X.env = pure false := by rfl) : RS X E (.Expr e pos) (sEx me) :=
  ps_weak (ps_expr h hs) fun D σ H ⟨ι, G, ρ, S, sl, p⟩ => run1 S sl (p.ofRes.mono fun ι1 G1 H1 v x1 S1 p1 x rx => p1 ι1 H1 σ .refl S1 (sl.ext x1))
theorem rs_ret (h : RE X E e me) : RS X E (.Return (some e) pos) (sRet me) :=
  ps_weak (ps_ret h) fun D σ H ⟨ι, G, ρ, S, sl, p⟩ => run1 S sl (p.ofRes.mono fun ι1 G1 H1 v x1 S1 p1 x rx => p1 ι1 H1 x .refl S1 rx)
theorem rs_retN : RS X E (.Return none pos) sRetN := ps_weak ps_retN fun D σ H ⟨ι, G, ρ, S, sl, p⟩ => p ι H .non .refl S rfl
theorem rs_if {a b : List Stmt} (hc : RT X E c mt) (ha : RSs X E a m) (hb : RSs X E b k) : RS X E (.If c a b pos) (sIf mt m k) :=
  ps_weak (ps_if hc ha hb) fun D σ H ⟨ι, G, ρ, S, sl, p⟩ => ⟨ι, G, ρ, S, sl, p.ofRes.mono fun ι1 G1 H1 b x1 S1 p1 => by
    cases b with
    | true => exact ⟨ι1, G1, ρ, S1, sl.ext x1, p1⟩
    | false => exact ⟨ι1, G1, ρ, S1, sl.ext x1, p1⟩⟩
theorem rs_set {i : Nat} {x : Str} {pos' : Pos} (hN : X.N.Nodup) (hi : X.N[i]? = some x) (hx : Loc X.env.scope x) (he : RE X E e me) (hs : swapsWith e (some (.Name x pos')) pos.line X.env = pure false := by rfl) (hf : X.fn x = true ∨ X.env.scope.names.lookup x = some .local := by first | exact .inl rfl | exact .inr rfl | assumption) :
    RS X E (.Assign [.Name x pos'] e pos) (sSet i me) :=
  ps_weak (ps_set hN hi hx he hs hf) fun D σ H ⟨ι, G, ρ, S, sl, p⟩ => run1 S sl (p.ofRes.mono fun ι1 G1 H1 v x1 S1 p1 x rx => p1 ι1 H1 (σ.set i (some x)) .refl S1 ((sl.ext x1).set rx i))
/-- what is never reached -/
def sNever : SM := fun _ _ => .bad
theorem rs_never : RS X E st sNever := ps_weak ps_never fun D σ H ⟨ι, G, ρ, S, sl, p⟩ => p
theorem rss_never : RSs X E rest sNever := pss_weak pss_never fun D σ H ⟨ι, G, ρ, S, sl, p⟩ => p
end

/-! ### targets: a name, names -/
/-- a name's slot, or several -/
inductive Pt where
  | nm (i : Nat) | tup (l : List Nat)
def setAll : List Nat → List Val → Env1 → Option Env1
  | [], [], ρ => some ρ
  | i :: is, v :: vs, ρ => setAll is vs (ρ.set i (some v))
  | _, _, _ => none
def ptSet (G : Store) : Pt → Val → Env1 → Option Env1
  | .nm i, v, ρ => some (ρ.set i (some v))
  | .tup l, .tup vs, ρ => setAll l vs ρ
  | .tup _, _, _ => none
def Pt.slots : Pt → List Nat
  | .nm i => [i]
  | .tup l => l
def tG (K : PySem.W.Frag) (p : Pt) : TG := fun x σ H Q => ∃ ι G v ρ ρ', Sim K ι G H ∧ Rep K ι G.length H v x ∧ Slots K ι G.length H ρ σ ∧ ptSet G p v ρ = some ρ' ∧
  ∀ σ', Slots K ι G.length H ρ' σ' → σ'.length = σ.length → (∀ j, j ∉ p.slots → σ'[j]? = σ[j]?) → Q σ' H
abbrev RG (X : Cx) (e : Expr) (p : Pt) : Prop := PG X e (tG X.K p)
theorem pg_weak {X : Cx} {e : Expr} {t t' : TG} (h : PG X e t) (w : ∀ x σ H Q, t' x σ H Q → t x σ H Q) : PG X e t' := ⟨fun pins s σ H v u Q I r q => h.run pins s σ H v u Q I r (w _ _ _ _ q)⟩
/-- names, one behind another -/
def tGs (K : PySem.W.Frag) (l : List Nat) : TGs := fun xs σ H Q => ∃ ι G vs ρ ρ', Sim K ι G H ∧ Reps K ι G.length H vs xs ∧ Slots K ι G.length H ρ σ ∧ setAll l vs ρ = some ρ' ∧
  ∀ σ', Slots K ι G.length H ρ' σ' → σ'.length = σ.length → (∀ j, j ∉ l → σ'[j]? = σ[j]?) → Q σ' H
abbrev RGs (X : Cx) (es : List Expr) (l : List Nat) : Prop := PGs X es (tGs X.K l)
theorem pgs_weak {X : Cx} {es : List Expr} {t t' : TGs} (h : PGs X es t) (w : ∀ x σ H Q, t' x σ H Q → t x σ H Q) : PGs X es t' := ⟨fun pins s σ H v u Q I r q => h.run pins s σ H v u Q I r (w _ _ _ _ q)⟩
section
variable {X : Cx} {E : XK} {pos : Pos}
theorem rg_name {i : Nat} {x : Str} (hN : X.N.Nodup) (hi : X.N[i]? = some x) (hx : Loc X.env.scope x) (hf : X.fn x = true ∨ X.env.scope.names.lookup x = some .local := by first | exact .inl rfl | exact .inr rfl | assumption) : RG X (.Name x pos) (.nm i) :=
  pg_weak (pg_name hN hi hx hf) fun x σ H Q ⟨ι, G, v, ρ, ρ', S, r, sl, e, k⟩ => by
    cases e
    exact k (σ.set i (some x)) (sl.set r i) (List.length_set ..) fun j hj => List.getElem?_set_ne fun q => hj (by rw [← q]; exact List.mem_singleton_self _)
theorem rgs_nil : RGs X [] [] := pgs_weak pgs_nil fun xs σ H Q ⟨ι, G, vs, ρ, ρ', S, r, sl, e, k⟩ => by
  cases vs with
  | nil =>
    cases e
    exact ⟨r, k σ sl rfl fun _ _ => rfl⟩
  | cons _ _ => cases e
theorem rgs_cons {i : Nat} {l : List Nat} {x : Str} {es : List Expr} (hN : X.N.Nodup) (hi : X.N[i]? = some x) (hx : Loc X.env.scope x) (h2 : RGs X es l)
    (hf : X.fn x = true ∨ X.env.scope.names.lookup x = some .local := by first | exact .inl rfl | exact .inr rfl | assumption) (hs : assignEach (.Name x pos :: es) X.env = (false, assign (.Name x pos) X.env) :: assignEach es X.env := by rfl) : RGs X (.Name x pos :: es) (i :: l) :=
  pgs_weak (pgs_cons (pg_name hN hi hx hf) h2 (by first | exact hs | rfl)) fun xs σ H Q ⟨ι, G, vs, ρ, ρ', S, r, sl, e, k⟩ => by
    cases vs with
    | nil => cases e
    | cons v vs =>
      obtain ⟨y, ys, h1, h3, h4⟩ := r
      refine ⟨y, ys, h1, ι, G, vs, ρ.set i (some v), ρ', S, h4, sl.set h3 i, e, fun σ' a b c => k σ' a (b.trans (List.length_set ..)) fun j hj => ?_⟩
      have hj1 : j ∉ l := fun q => hj (List.mem_cons_of_mem _ q)
      have hj2 : i ≠ j := fun q => hj (by rw [q]; exact List.mem_cons_self ..)
      rw [c j hj1, List.getElem?_set_ne hj2]
theorem rg_tup {es : List Expr} {k : Nat} {l : List Nat} (hc : X.calm = true) (h : RGs X es l) (hn : (assignEach es X.env).length = l.length := by rfl) (hst : (assignEach es X.env).findIdx? (·.1) = none := by rfl) : RG X (.Tuple es k pos) (.tup l) :=
  pg_weak (pg_tup hc h hn hst) fun x σ H Q ⟨ι, G, v, ρ, ρ', S, r, sl, e, k⟩ => by
    cases v with
    | tup vs =>
      obtain ⟨a, xs, e1, h1, h2⟩ := r
      have len : ∀ {is : List Nat} {vs : List Val} {ρ ρ' : Env1}, setAll is vs ρ = some ρ' → vs.length = is.length := by
        intro is
        induction is with
        | nil => intro vs ρ ρ' h; cases vs with | nil => rfl | cons _ _ => cases h
        | cons i is ih => intro vs ρ ρ' h; cases vs with | nil => cases h | cons v vs => exact congrArg Nat.succ (ih h)
      refine ⟨a, xs, e1, h1, ?_, ι, G, vs, ρ, ρ', S, h2, sl, e, k⟩
      rw [h2.length]
      exact len e
    | _ => cases e
/-- a, b = e -/
def sUn (p : Pt) (m : EM) : SM := fun ρ G => (m ρ G).toS fun v G1 => match ptSet G1 p v ρ with
  | some ρ' => .next ρ' G1
  | none => .bad
theorem rs_un {tg e : Expr} {me : EM} {p : Pt} (he : RE X E e me) (hg : RG X tg p) (hs : swapsWithSole [tg] e pos.line X.env = pure false := by rfl) (hw : swappedStores [tg] e X.env = pure none := by rfl)
    (h1 : (assignEach [tg] X.env).map (·.2) = [assign tg X.env] := by rfl) : RS X E (.Assign [tg] e pos) (sUn p me) :=
  ps_weak (ps_asg he hg hs hw h1) fun D σ H ⟨ι, G, ρ, S, sl, q⟩ => run1 S sl (q.ofRes.mono fun ι1 G1 H1 v x1 S1 p1 x rx => by
    cases e : ptSet G1 p v ρ with
    | none => rw [e] at p1; exact p1.elim
    | some ρ' =>
      rw [e] at p1
      exact ⟨ι1, G1, v, ρ, ρ', S1, rx, sl.ext x1, e, fun σ' a _ _ => p1 ι1 H1 σ' .refl S1 a⟩)
/-- a, b = e1, e2 -/
def sPar (i j : Nat) (k : AM) : SM := fun ρ G => (k ρ G).toS fun vs G1 => match vs with
  | [v, w] => .next ((ρ.set i (some v)).set j (some w)) G1
  | _ => .bad
theorem rs_par {i j : Nat} {x y : Str} {a b : Expr} {ma : AM} {px py pt : Pos} {kt k2 pt2} (hc : X.calm = true) (hN : X.N.Nodup) (hi : X.N[i]? = some x) (hj : X.N[j]? = some y) (hij : i ≠ j)
    (hx : X.env.scope.names.lookup x = some .local) (hy : X.env.scope.names.lookup y = some .local) (ha : RA X E [a, b] ma)
    (hw : swappedStores [.Tuple [.Name x px, .Name y py] kt pt] (.Tuple [a, b] k2 pt2) X.env = pure (some [x, y]))
    (hs : swapsWithSole [.Tuple [.Name x px, .Name y py] kt pt] (.Tuple [a, b] k2 pt2) pos.line X.env = pure false := by rfl) : RS X E (.Assign [.Tuple [.Name x px, .Name y py] kt pt] (.Tuple [a, b] k2 pt2) pos) (sPar i j ma) :=
  ps_weak (ps_par hc hN hi hj hij hx hy ha hw hs) fun D σ H ⟨ι, G, ρ, S, sl, q⟩ => ⟨ι, G, ρ, S, sl, q.ofRes.mono fun ι1 G1 H1 vs x1 S1 p1 xs rxs => by
    cases vs with
    | nil => exact p1.elim
    | cons v vs =>
      cases vs with
      | nil => exact p1.elim
      | cons w vs =>
        cases vs with
        | cons _ _ => exact p1.elim
        | nil =>
          obtain ⟨x, y, e, rx, ry⟩ := reps2 rxs
          exact ⟨x, y, e, p1 ι1 H1 _ .refl S1 (((sl.ext x1).set rx i).set ry j)⟩⟩
end

/-! ### fields, places are given values -/
/-- self.f = e, self an instance of the class c, f its field at the place p -/
def setFld (c p : Nat) (o v : Val) (G : Store) : Option Store := match o with
  | .obj i => (match G[i]? with
    | some (.ins c' vs) => if c' = c ∧ p ≤ vs.length then some (G.set i (.ins c (if p < vs.length then vs.set p v else vs ++ [v]))) else none
    | _ => none)
  | _ => none
def sFld1 (c p : Nat) (o m : EM) : SM := fun ρ G => (m ρ G).toS fun v G1 => (o ρ G1).toS fun w G2 => match setFld c p w v G2 with
  | some G3 => .next ρ G3
  | none => .bad
section
variable {X : Cx} {E : XK} {o e : Expr} {mo me : EM} {pos pos' : Pos}
theorem setFld_ok {K : PySem.W.Frag} {ι : Vw} {G G' : Store} {H : Hp} {c p : Nat} {f : Str} {w v : Val} {x y : V} (S : Sim K ι G H) (rw_ : Rep K ι G.length H w x) (rv : Rep K ι G.length H v y) (hf : (cfields c)[p]? = some f) (h : setFld c p w v G = some G') :
    ∃ a dx gs, x = .ref a ∧ H a = some (.ins (He.ga K (cname c)) dx gs) ∧ ClsOk K c ∧ gs.length < 1000 ∧ Sim K ι G' (L2.upd H a (.ins (He.ga K (cname c)) dx (putF f y gs))) ∧ Ext K ι G.length H ι G'.length (L2.upd H a (.ins (He.ga K (cname c)) dx (putF f y gs))) := by
  cases w with
  | obj i =>
    have h0 : (match G[i]? with | some (.ins c' vs) => (if c' = c ∧ p ≤ vs.length then some (G.set i (.ins c (if p < vs.length then vs.set p v else vs ++ [v]))) else none) | _ => none) = some G' := h
    cases e : G[i]? with
    | none => rw [e] at h0; cases h0
    | some ob =>
      rw [e] at h0
      cases ob with
      | ins c' vs =>
        have h1 : (if c' = c ∧ p ≤ vs.length then some (G.set i (.ins c (if p < vs.length then vs.set p v else vs ++ [v]))) else none) = some G' := h0
        by_cases hc : c' = c ∧ p ≤ vs.length
        · rw [if_pos hc] at h1
          cases h1
          obtain ⟨rfl, hp⟩ := hc
          obtain ⟨ck, dx, gs, g1, g2⟩ := S.ins e
          have hl := g2.length
          have hfo := fields_ok c'
          obtain ⟨s1, s2⟩ := S.set (u := .ins (He.ga K (cname c')) dx (putF f y gs)) (o := .ins c' (if p < vs.length then vs.set p v else vs ++ [v])) e rfl
            ⟨ck, dx, _, upd_same, (g2.put rv hfo.1 hf hp).ext (Ext.updE (S.fr e g1 trivial))⟩
          exact ⟨ι i, dx, gs, rw_.2, g1, ck, by omega, s1, s2⟩
        · rw [if_neg hc] at h1
          cases h1
      | _ => cases h0
  | _ => cases h
theorem rs_fld {c p : Nat} {f : Str} (hf : (cfields c)[p]? = some f) (ho : RE X E o mo) (he : RE X E e me) (hs : swapsWith e (some (.Attribute o f pos')) pos.line X.env = pure false := by rfl) : RS X E (.Assign [.Attribute o f pos'] e pos) (sFld1 c p mo me) :=
  ps_weak (ps_fld ho he hs) fun D σ H ⟨ι, G, ρ, S, sl, q⟩ => run1 S sl (q.ofRes.mono fun ι1 G1 H1 v x1 S1 p1 y ry => run1 S1 (sl.ext x1) (p1.ofRes.mono fun ι2 G2 H2 w x2 S2 p2 x rx => by
    cases e : setFld c p w v G2 with
    | none => rw [e] at p2; exact p2.elim
    | some G3 =>
      rw [e] at p2
      obtain ⟨a, dx, gs, e1, e2, ck, hl, s3, e3⟩ := setFld_ok S2 rx (ry.ext x2) hf e
      exact ⟨a, _, dx, gs, e1, e2, ck.cls, ck.fld f (List.mem_of_getElem? hf), hl, p2 ι2 _ σ e3 s3 (sl.ext ((x1.trans x2).trans e3))⟩))
end

/-! ### calls -/
/-- a def's promise: what m says -/
def spF (K : PySem.W.Frag) (np : Nat) (m : F1) : Sp := fun xs H Q E => ∃ ι G vs, Sim K ι G H ∧ Reps K ι G.length H vs xs ∧ vs.length = np ∧ Post K E ι G.length H (m vs G) fun ι' G' H' v => ∀ x, Rep K ι' G'.length H' v x → Q x H'
/-- plain values as they lie -/
def Dfl (dv : List Val) (ds : List Value) : Prop := dv.all plain1 = true ∧ Vals (dv.map pv1) ds
section
variable (P : Program) (w : World) (K : PySem.W.Frag) (mg : Str → Option Value) (base : Heap) (CX : CXT)
/-- the module's def x does what f says (dv: the defaults of the parameters that are left out) -/
structure GF (k : Nat) (x : Str) (np : Nat) (f : F1) (dv : List Val) : Prop where
  ex : ∃ (fa : Addr) (fd : FuncData) (ps : List Str) (ds : List Value), mg x = some (.ref fa) ∧ PySem.W.keepIn K (.ref fa) = true ∧ FnOk P w K mg base CX k fa fd ps (spF K np f) ∧ Binds K fd ps ds ∧ Dfl dv ds
/-- the method m of the class c -/
structure MF (k : Nat) (c : Nat) (m : Str) (np : Nat) (f : F1) (dv : List Val) : Prop where
  nf : m ∉ cfields c
  cls : Cls K (He.ga K (cname c))
  ex : ∃ (fa : Addr) (fd : FuncData) (ps : List Str) (ds : List Value), Meth K (He.ga K (cname c)) m fa ∧ FnOk P w K mg base CX k fa fd ps (spF K np f) ∧ Binds K fd ps ds ∧ Dfl dv ds
/-- the class c is made: f its __init__ -/
structure CF (k : Nat) (c : Nat) (np : Nat) (f : F1) (dv : List Val) : Prop where
  ok : ClsOk K c
  glo : mg (cname c) = some (.ref (He.ga K (cname c)))
  ex : ∃ (fa : Addr) (fd : FuncData) (ps : List Str) (ds : List Value), Mk K (He.ga K (cname c)) fa ∧ FnOk P w K mg base CX k fa fd ps (spF K np f) ∧ Binds K fd ps ds ∧ Dfl dv ds
end
theorem reps_dfl {K : PySem.W.Frag} {ι : Vw} {n : Nat} {H : Hp} : ∀ {dv : List Val}, dv.all plain1 = true → Reps K ι n H dv (dv.map pv1)
  | [], _ => rfl
  | v :: l, h => by
    obtain ⟨h1, h2⟩ := Bool.and_eq_true_iff.mp (show (plain1 v && l.all plain1) = true from h)
    exact ⟨pv1 v, l.map pv1, rfl, (rep_plain h1).mpr rfl, reps_dfl h2⟩
/-- a call of f with the defaults dv behind the values -/
def eCallF (f : F1) (dv : List Val) (k : AM) : EM := fun ρ G => (k ρ G).bind fun vs G1 => f (vs ++ dv) G1
/-- a method by the receiver's class -/
def eMeth (tb : List (Nat × F1)) (dv : List Val) (o : EM) (k : AM) : EM := fun ρ G => (o ρ G).bind fun w G1 => match w with
  | .obj i => (match G1[i]? with
    | some (.ins c _) => (match tb.lookup c with
      | some f => (k ρ G1).bind fun vs G2 => f (w :: (vs ++ dv)) G2
      | none => .bad)
    | _ => .bad)
  | _ => .bad
/-- a new instance -/
def eMake (c : Nat) (f : F1) (dv : List Val) (k : AM) : EM := fun ρ G => (k ρ G).bind fun vs G1 => (f (.obj G1.length :: (vs ++ dv)) (G1 ++ [.ins c []])).bind fun v G2 => match v with
  | .non => .ok (.obj G1.length) G2
  | _ => .bad
section
variable {X : Cx} {CX : CXT} {E : XK} {k np : Nat} {x m : Str} {f : F1} {dv : List Val} {e o : Expr} {es : List Expr} {mo : EM} {mes : AM} {p pos apos : Pos}
/-- f is asked with np values alone -/
def Arity (np : Nat) (f : F1) : Prop := ∀ vs G, vs.length ≠ np → f vs G = .bad
theorem re_call (F : GF X.prog X.w X.K X.mg X.base CX k x np f dv) (ar : Arity np f) (hr : Room k X.A) (hg : Gl X x) (hx : Passes CX X E) (ha : RA X E (e :: es) mes) (hdb : (x == ("__debug__" : Str)) = false := by decide)
    (he : starEach (e :: es) X.env = (false, eval e X.env) :: starEach es X.env := by rfl) (hpl : (backTo pos (starEach es X.env)).any (·.1) = false := by rfl) : RE X E (.Call (.Name x p) (e :: es) [] pos) (eCallF f dv mes) := by
  obtain ⟨fa, fd, ps, ds, hm, hk, F, hb, hpd, hd⟩ := F.ex
  refine pe_weak (pe_call F hr hg hm hk hb hd hx ha hdb he hpl) fun σ H Q ⟨ι, G, ρ, S, sl, q⟩ => ⟨ι, G, ρ, S, sl, (Post.bind q).mono fun ι1 G1 H1 vs x1 S1 p1 xs rx => ⟨ι1, G1, vs ++ dv, S1, rx.append (reps_dfl hpd), ?_, p1⟩⟩
  by_cases h : (vs ++ dv).length = np
  · exact h
  · rw [ar _ _ h] at p1
    exact p1.elim
theorem re_call0 (F : GF X.prog X.w X.K X.mg X.base CX k x np f dv) (ar : Arity np f) (hr : Room k X.A) (hg : Gl X x) (hx : Passes CX X E) (hdb : (x == ("__debug__" : Str)) = false := by decide) : RE X E (.Call (.Name x p) [] [] pos) (eCallF f dv aNil) := by
  obtain ⟨fa, fd, ps, ds, hm, hk, F, hb, hpd, hd⟩ := F.ex
  refine pe_weak (pe_call0 F hr hg hm hk hb hd hx hdb) fun σ H Q ⟨ι, G, ρ, S, sl, q⟩ => ?_
  have p1 : Post X.K E ι G.length H (f ([] ++ dv) G) (fun ι' G' H' v => ∀ x, Rep X.K ι' G'.length H' v x → Q x H') := q
  refine ⟨ι, G, [] ++ dv, S, reps_dfl hpd, ?_, p1⟩
  by_cases h : ([] ++ dv).length = np
  · exact h
  · rw [ar _ _ h] at p1
    exact p1.elim
theorem meth_w {c : Nat} {sp : Sp} (h : MF X.prog X.w X.K X.mg X.base CX k c m np f dv) (hsp : sp = spF X.K np f) (ar : Arity np f) (hp : dv.all plain1 = true) : ∀ σ H Q, tE X.K E (eMeth [(c, f)] dv mo mes) σ H Q → tMeth (He.ga X.K (cname c)) m sp (dv.map pv1) E (tE X.K E mo) (tA X.K E mes) σ H Q := fun σ H Q ⟨ι, G, ρ, S, sl, q⟩ => by
  subst hsp
  refine run1 S sl ((Post.bind q).mono fun ι1 G1 H1 w x1 S1 p1 x rx => ?_)
  cases w with
  | obj i =>
    cases e1 : G1[i]? with
    | none => simp only [e1] at p1; exact p1.elim
    | some ob =>
      simp only [e1] at p1
      cases ob with
      | ins c' vs =>
        by_cases hc : c' = c
        · subst hc
          have e2 : [(c', f)].lookup c' = some f := by rw [List.lookup_cons, beq_self_eq_true]
          dsimp only at p1
          rw [e2] at p1
          obtain ⟨ck, dx, gs, g1, g2⟩ := S1.ins e1
          refine ⟨ι1 i, dx, gs, rx.2, g1, g2.none h.nf, ι1, G1, ρ, S1, sl.ext x1, (Post.bind p1).mono fun ι2 G2 H2 ws x2 S2 p2 ys rys => ⟨ι2, G2, .obj i :: (ws ++ dv), S2, ⟨x, _, rfl, rx.ext x2, rys.append (reps_dfl hp)⟩, ?_, p2⟩⟩
          by_cases h : (Val.obj i :: (ws ++ dv)).length = np
          · exact h
          · rw [ar _ _ h] at p2
            exact p2.elim
        · have e2 : [(c, f)].lookup c' = none := by rw [List.lookup_cons, beq_false_of_ne hc]; rfl
          have p2 : Post X.K E ι1 G1.length H1 (match [(c, f)].lookup c' with | some f => (mes ρ G1).bind fun vs G2 => f (Val.obj i :: (vs ++ dv)) G2 | none => Res.bad) fun ι' G' H' v => ∀ (x : V), Rep X.K ι' (List.length G') H' v x → Q x H' := p1
          rw [e2] at p2
          exact p2.elim
      | _ => exact p1.elim
  | _ => exact p1.elim
theorem re_meth {c : Nat} {pl : Sem Bool} (ho : RE X E o mo) (F : MF X.prog X.w X.K X.mg X.base CX k c m np f dv) (ar : Arity np f) (hr : Room k X.A) (hx : Passes CX X E) (ha : RA X E (e :: es) mes)
    (hst : starEach (e :: es) X.env = (false, eval e X.env) :: starEach es X.env := by rfl) (hpl : (backTo pos (starEach es X.env)).any (·.1) = false := by rfl)
    (ht : eval (.Call (.Attribute o m apos) (e :: es) [] pos) X.env = (do
      let ov ← eval o X.env
      standAt apos.atName
      let (f, first) ← holding [ov] (getMethod ov m pl)
      callWith pos f first (backTo pos (starEach (e :: es) X.env)) (backToKw pos (keywordEach [] X.env))) := by rfl) : RE X E (.Call (.Attribute o m apos) (e :: es) [] pos) (eMeth [(c, f)] dv mo mes) := by
  obtain ⟨fa, fd, ps, ds, hm, F1, hb, hpd, hd⟩ := F.ex
  exact pe_weak (pe_meth ho F.cls hm F1 hr hb hd hx ha hst hpl ht) (meth_w F rfl ar hpd)
theorem re_meth0 {c : Nat} {pl : Sem Bool} (ho : RE X E o mo) (F : MF X.prog X.w X.K X.mg X.base CX k c m np f dv) (ar : Arity np f) (hr : Room k X.A) (hx : Passes CX X E)
    (ht : eval (.Call (.Attribute o m apos) [] [] pos) X.env = (do
      let ov ← eval o X.env
      standAt apos.atName
      let (f, first) ← holding [ov] (getMethod ov m pl)
      callWith pos f first (backTo pos (starEach [] X.env)) (backToKw pos (keywordEach [] X.env))) := by rfl) : RE X E (.Call (.Attribute o m apos) [] [] pos) (eMeth [(c, f)] dv mo aNil) := by
  obtain ⟨fa, fd, ps, ds, hm, F1, hb, hpd, hd⟩ := F.ex
  refine pe_weak (pe_meth0 ho F.cls hm F1 hr hb hd hx ht) fun σ H Q h => ?_
  obtain ⟨ι, G, ρ, S, sl, q⟩ := meth_w (mes := aNil) F rfl ar hpd σ H Q h
  refine ⟨ι, G, ρ, S, sl, q.mono fun ι' G' H' v x' S' k1 x rx => ?_⟩
  obtain ⟨a, dx, fs, e1, e2, e3, ι2, G2, ρ2, S2, sl2, q2⟩ := k1 x rx
  exact ⟨a, dx, fs, e1, e2, e3, q2.here S2 [] rfl⟩
/-- one of several classes -/
theorem meth_cons {c : Nat} {tb : List (Nat × F1)} (h1 : RE X E e (eMeth [(c, f)] dv mo mes)) (h2 : RE X E e (eMeth tb dv mo mes)) : RE X E e (eMeth ((c, f) :: tb) dv mo mes) := by
  refine pe_weak (pe_orE h1 h2) fun σ H Q ⟨ι, G, ρ, S, sl, q⟩ => ?_
  unfold eMeth at q ⊢
  cases e0 : mo ρ G with
  | bad => simp only [e0] at q; exact q.elim
  | exc c0 G1 =>
    simp only [e0] at q
    exact .inl ⟨ι, G, ρ, S, sl, by simp only [e0]; exact q⟩
  | ok w G1 =>
    simp only [e0] at q
    cases w with
    | obj i =>
      cases e1 : G1[i]? with
      | none => simp only [Res.bind, e1] at q; exact q.elim
      | some ob =>
        cases ob with
        | ins c' vs =>
          simp only [Res.bind, e1, List.lookup_cons] at q
          cases hc : (c' == c) with
          | true =>
            simp only [hc] at q
            refine .inl ⟨ι, G, ρ, S, sl, ?_⟩
            simp only [e0, Res.bind, e1, List.lookup_cons, hc]
            exact q
          | false =>
            simp only [hc] at q
            refine .inr ⟨ι, G, ρ, S, sl, ?_⟩
            simp only [e0, Res.bind, e1]
            exact q
        | _ => simp only [Res.bind, e1] at q; exact q.elim
    | _ => exact q.elim
theorem make_w {c : Nat} {K : PySem.W.Frag} {ι : Vw} {G : Store} {H : Hp} {vs : List Val} {xs : List V} {Q : VK} (ok : ClsOk K c) (ar : Arity np f) (hp : dv.all plain1 = true) (S : Sim K ι G H) (r : Reps K ι G.length H vs xs)
    (q : Post K E ι G.length H ((f (.obj G.length :: (vs ++ dv)) (G ++ [.ins c []])).bind fun v G2 => match v with | .non => .ok (.obj G.length) G2 | _ => .bad) fun ι' G' H' v => ∀ x, Rep K ι' G'.length H' v x → Q x H') :
    ∀ x dx, H x = none → H dx = none → dx ≠ x → spF K np f (.ref x :: (xs ++ dv.map pv1)) (L2.upd (L2.upd H dx (.own x)) x (.ins (He.ga K (cname c)) dx [])) (fun v H2 => v = .non ∧ Q (.ref x) H2) E := fun x dx hx hdx hne => by
  have S1 : Sim K ι G (L2.upd H dx (.own x)) := S.junk hdx
  have hx1 : (L2.upd H dx (.own x)) x = none := by rw [upd_ne (Ne.symm hne)]; exact hx
  have x1 : Ext K ι G.length H ι G.length (L2.upd H dx (.own x)) := Ext.updE (.fresh hdx)
  have x2 : Ext K ι G.length (L2.upd H dx (.own x)) (into ι G.length x) (G.length + 1) (L2.upd (L2.upd H dx (.own x)) x (.ins (He.ga K (cname c)) dx [])) := Ext.push hx1
  have S2 : Sim K (into ι G.length x) (G ++ [.ins c []]) (L2.upd (L2.upd H dx (.own x)) x (.ins (He.ga K (cname c)) dx [])) := S1.push hx1 ⟨ok, dx, [], upd_same, by cases cfields c <;> exact rfl⟩
  have hl : (G ++ [Ob.ins c []]).length = G.length + 1 := by rw [List.length_append, List.length_singleton]
  have x3 : Ext K ι G.length H (into ι G.length x) (G ++ [Ob.ins c []]).length (L2.upd (L2.upd H dx (.own x)) x (.ins (He.ga K (cname c)) dx [])) := by
    rw [hl]
    exact x1.trans x2
  have q2 := Post.bind (Post.ext x3 q)
  refine ⟨into ι G.length x, G ++ [.ins c []], .obj G.length :: (vs ++ dv), S2, ⟨.ref x, _, rfl, ⟨by rw [hl]; exact Nat.lt_succ_self _, by rw [into_eq]⟩, (r.ext x3).append (reps_dfl hp)⟩, ?_, q2.mono fun ι4 G4 H4 v x4 S4 p4 z rz => ?_⟩
  · by_cases h : (Val.obj G.length :: (vs ++ dv)).length = np
    · exact h
    · rw [ar _ _ h] at q2
      exact q2.elim
  · cases v with
    | non =>
      refine ⟨rz, p4.here S4 _ ⟨Nat.lt_of_lt_of_le (by rw [hl]; exact Nat.lt_succ_self _) x4.le, ?_⟩⟩
      rw [x4.same G.length (by rw [hl]; exact Nat.lt_succ_self _), into_eq]
    | _ => exact p4.elim
theorem re_make {c : Nat} {y : Str} (F : CF X.prog X.w X.K X.mg X.base CX k c np f dv) (hy : cname c = y) (ar : Arity np f) (hr : Room (k + 1) X.A) (hg : Gl X y) (hx : Passes CX X E) (ha : RA X E (e :: es) mes) (hdb : (y == ("__debug__" : Str)) = false := by decide)
    (he : starEach (e :: es) X.env = (false, eval e X.env) :: starEach es X.env := by rfl) (hpl : (backTo pos (starEach es X.env)).any (·.1) = false := by rfl) : RE X E (.Call (.Name y p) (e :: es) [] pos) (eMake c f dv mes) := by
  obtain ⟨fa, fd, ps, ds, hM, F1, hb, hpd, hd⟩ := F.ex
  exact pe_weak (pe_make hM F1 hr hg (by rw [← hy]; exact F.glo) hb hd hx ha hdb he hpl) fun σ H Q ⟨ι, G, ρ, S, sl, q⟩ => ⟨ι, G, ρ, S, sl, (Post.bind q).mono fun ι1 G1 H1 vs x1 S1 p1 xs rxs => make_w F.ok ar hpd S1 rxs p1⟩
theorem re_make0 {c : Nat} {y : Str} (F : CF X.prog X.w X.K X.mg X.base CX k c np f dv) (hy : cname c = y) (ar : Arity np f) (hr : Room (k + 1) X.A) (hg : Gl X y) (hx : Passes CX X E) (hdb : (y == ("__debug__" : Str)) = false := by decide) : RE X E (.Call (.Name y p) [] [] pos) (eMake c f dv aNil) := by
  obtain ⟨fa, fd, ps, ds, hM, F1, hb, hpd, hd⟩ := F.ex
  exact pe_weak (pe_make0 hM F1 hr hg (by rw [← hy]; exact F.glo) hb hd hx hdb) fun σ H Q ⟨ι, G, ρ, S, sl, q⟩ => make_w (vs := []) (xs := []) F.ok ar hpd S rfl q
end

/-! ### a def's body -/
@[irreducible] def runDef (N np : Nat) (b : SM) : F1 := fun vs G => if vs.length = np then (match b (vs.map some ++ List.replicate (N - np) none) G with
  | .next _ G' => .ok .non G'
  | .ret v G' => .ok v G'
  | .exc c G' => .exc c G'
  | _ => .bad) else .bad
theorem runDef_ar {N np : Nat} {b : SM} : Arity np (runDef N np b) := fun vs G h => by
  unfold runDef
  exact if_neg h
section
variable {K : PySem.W.Frag} {ι : Vw} {n : Nat} {H : Hp}
theorem slots_none : ∀ k : Nat, Slots K ι n H (List.replicate k none) (List.replicate k none)
  | 0 => rfl
  | k + 1 => ⟨none, List.replicate k none, rfl, fun w h => (by cases h), slots_none k⟩
theorem slots_start {N : List Str} : ∀ {vs : List Val} {xs : List V} (k : Nat), Reps K ι n H vs xs → Slots K ι n H (vs.map some ++ List.replicate k none) (xs.map some ++ List.replicate k none)
  | [], _, k, h => by rw [show _ = [] from h]; exact slots_none k
  | v :: vs, _, k, ⟨y, ys, h1, h2, h3⟩ => by
    rw [h1]
    exact ⟨some y, _, rfl, fun w hw => ⟨y, rfl, by cases hw; exact h2⟩, slots_start (N := N) k h3⟩
theorem body_w {E : XK} {b : SM} {N : List Str} {np : Nat} {xs : List V} {Q : VK} (h : spF K np (runDef N.length np b) xs H Q E) : tS K E b { nx := fun _ H' => Q .non H', rt := Q } (start N xs) H := by
  obtain ⟨ι, G, vs, S, r, hl, p⟩ := h
  refine ⟨ι, G, vs.map some ++ List.replicate (N.length - np) none, S, ?_, ?_⟩
  · unfold L2.start
    rw [r.length, hl]
    exact slots_start (N := N) _ r
  · unfold runDef at p
    rw [if_pos hl] at p
    cases e : b (vs.map some ++ List.replicate (N.length - np) none) G with
    | next ρ' G' =>
      rw [e] at p
      exact fun ι' H' σ' x S' _ => p ι' H' x S' .non rfl
    | ret v G' =>
      rw [e] at p
      exact fun ι' H' x' x S' r' => p ι' H' x S' x' r'
    | exc c G' =>
      rw [e] at p
      exact p
    | brk ρ' G' => rw [e] at p; exact p.elim
    | cont ρ' G' => rw [e] at p; exact p.elim
    | bad => rw [e] at p; exact p.elim
end
section
variable {P : Program} {w : World} {K : PySem.W.Frag} {mg : Str → Option Value} {base : Heap} {CX : CXT} {x qual : Str} {params : Arguments} {body : List Stmt} {scope : Scope} {dvs : List V} {kws : List (Str × V)} {fa : Addr} {fd : FuncData} {N ps : List Str} {k : Nat} {b : SM}
theorem fn_ok (F : FunD K x qual params body scope dvs kws fa fd) (S : FnScope N ps scope)
    (hb : ∀ (cdv : Value) (A : Around) (outer : List Env) (s : Shared) (H : Hp) (E : XK), Room k (A.deeper (envOfC qual scope s.heap.objs.size fa cdv)) → RSs (cxOf CX P w K mg base N qual scope fa cdv A outer s H E) E body b) :
    FnOk P w K mg base CX (k + 1) fa fd ps (spF K ps.length (runDef N.length ps.length b)) :=
  F.ok S (fun vs H Q E ⟨ι, G, us, _, r, hl, _⟩ => by rw [r.length]; exact hl) fun cdv A outer s H vs Q E hr h => ⟨_, hb cdv A outer s H E hr, body_w h⟩
end
end R1

/-! R1e: loops, comprehensions. -/
namespace R1
open PySem PySem.Spec PyProof.Rows L2

/-! ### while -/
/-- n: more turns than it takes -/
def sWhile (t : TM) (b : SM) : Nat → SM
  | 0 => fun _ _ => .bad
  | n + 1 => fun ρ G => (t ρ G).toS fun k G1 => if k = true then (match b ρ G1 with
      | .next ρ' G' => sWhile t b n ρ' G'
      | .cont ρ' G' => sWhile t b n ρ' G'
      | .brk ρ' G' => .next ρ' G'
      | r => r) else .next ρ G1
section
variable {X : Cx} {E : XK} {c : Expr} {mt : TM} {body : List Stmt} {b : SM} {pos : Pos}
theorem rs_while (n : Nat) (hp : PassesOwn (model X.prog X.w) X.A X.env X.xe) (hc : RT X E c mt) (hb : RSs X E body b) : RS X E (.While c body [] pos) (sWhile mt b n) := by
  refine ps_weak (ps_while hp hc hb) fun D σ H ⟨ι, G, ρ, S, sl, p⟩ => ?_
  refine ⟨fun m σ H => ∃ ι G ρ, Sim X.K ι G H ∧ Slots X.K ι G.length H ρ σ ∧ SPost X.K E ι G.length H (sWhile mt b m ρ G) D, ⟨n, ι, G, ρ, S, sl, p⟩, ?_⟩
  rintro m σ H ⟨ι, G, ρ, S, sl, p⟩
  cases m with
  | zero => exact p.elim
  | succ m =>
    refine ⟨ι, G, ρ, S, sl, (SPost.ofRes p).mono fun ι1 G1 H1 k x1 S1 p1 => ?_⟩
    cases k with
    | false => exact p1 ι1 H1 σ .refl S1 (sl.ext x1)
    | true =>
      refine ⟨fun σ' H' => ∃ ι G ρ, Sim X.K ι G H' ∧ Slots X.K ι G.length H' ρ σ' ∧ SPost X.K E ι G.length H' (sWhile mt b m ρ G) D, fun σ' H' h => ⟨m, Nat.lt_succ_self _, h⟩, ι1, G1, ρ, S1, sl.ext x1, ?_⟩
      have p2 : SPost X.K E ι1 G1.length H1 (match b ρ G1 with
        | .next ρ' G' => sWhile mt b m ρ' G'
        | .cont ρ' G' => sWhile mt b m ρ' G'
        | .brk ρ' G' => .next ρ' G'
        | r => r) D := p1
      cases e : b ρ G1 with
      | next ρ' G' => rw [e] at p2; exact fun ι2 H2 σ2 x2 S2 l2 => ⟨ι2, G', ρ', S2, l2, p2.ext x2⟩
      | cont ρ' G' => rw [e] at p2; exact fun ι2 H2 σ2 x2 S2 l2 => ⟨ι2, G', ρ', S2, l2, p2.ext x2⟩
      | brk ρ' G' => rw [e] at p2; exact p2
      | ret v G' => rw [e] at p2; exact p2
      | exc c G' => rw [e] at p2; exact p2
      | bad => rw [e] at p2; exact p2
end

/-! ### for -/
/-- one turn: the target, the body; go on with k -/
def turn1 (p : Pt) (b : SM) (v : Val) (k : SM) : SM := fun ρ G => match ptSet G p v ρ with
  | none => .bad
  | some ρ1 => (match b ρ1 G with
    | .next ρ' G' => k ρ' G'
    | .cont ρ' G' => k ρ' G'
    | .brk ρ' G' => .next ρ' G'
    | r => r)
/-- over items that stand still -/
def forIt (p : Pt) (b : SM) : List Val → SM
  | [] => fun ρ G => .next ρ G
  | v :: r => turn1 p b v (forIt p b r)
/-- over the list i, as it stands at each turn -/
def forOb (p : Pt) (b : SM) (i : Nat) : List Val → Nat → SM
  | [], k => fun ρ G => match G[i]? with
    | some (.lst l) => if l.length ≤ k then .next ρ G else .bad
    | _ => .bad
  | _ :: r, k => fun ρ G => match G[i]? with
    | some (.lst l) => (match l[k]? with
      | some v => turn1 p b v (forOb p b i r (k + 1)) ρ G
      | none => .bad)
    | _ => .bad
/-- for p in m: b, a list -/
def sForL (m : EM) (p : Pt) (b : SM) : SM := fun ρ G => (m ρ G).toS fun v G1 => match v with
  | .fro l => forIt p b l ρ G1
  | .obj i => (match G1[i]? with
    | some (.lst l) => forOb p b i l 0 ρ G1
    | _ => .bad)
  | _ => .bad
/-- a tuple -/
def sForT (m : EM) (p : Pt) (b : SM) : SM := fun ρ G => (m ρ G).toS fun v G1 => match v with
  | .tup l => forIt p b l ρ G1
  | _ => .bad
def rangeL (lo : Int) (n : Nat) : List Val := (List.range n).map fun i => .int (lo + (i : Nat))
def inLine (i : Int) : Bool := decide (-(2 ^ 62) ≤ i) && decide (i < 2 ^ 62)
def rng1 (vs : List Val) : Option (List Val) := match vs with
  | [.int j] => if inLine j = true then some (rangeL 0 j.toNat) else none
  | _ => none
def rng2 (vs : List Val) : Option (List Val) := match vs with
  | [.int i, .int j] => if inLine i = true ∧ inLine j = true then some (rangeL i (j - i).toNat) else none
  | _ => none
def sForR (rng : List Val → Option (List Val)) (k : AM) (p : Pt) (b : SM) : SM := fun ρ G => (k ρ G).toS fun vs G1 => match rng vs with
  | some l => forIt p b l ρ G1
  | none => .bad
section
variable {X : Cx} {E : XK} {tg iter : Expr} {mi : EM} {p : Pt} {body : List Stmt} {b : SM} {pos : Pos}
theorem turn_w {K : PySem.W.Frag} {ι : Vw} {G : Store} {H : Hp} {ρ : Env1} {σ : L2.St} {v : Val} {x : V} {D : Ends} {k : SM} {W : Nat → L2.St → Hp → Prop} (S : Sim K ι G H) (rx : Rep K ι G.length H v x) (sl : Slots K ι G.length H ρ σ)
    (q : SPost K E ι G.length H (turn1 p b v k ρ G) D) : tG K p x σ H fun σ2 H2 => tS K E b { D with nx := tS K E k D, ct := tS K E k D, bk := D.nx } σ2 H2 := by
  unfold turn1 at q
  cases e : ptSet G p v ρ with
  | none => rw [e] at q; exact q.elim
  | some ρ1 =>
    rw [e] at q
    have q1 : SPost K E ι G.length H (match b ρ1 G with
      | .next ρ' G' => k ρ' G'
      | .cont ρ' G' => k ρ' G'
      | .brk ρ' G' => .next ρ' G'
      | r => r) D := q
    refine ⟨ι, G, v, ρ, ρ1, S, rx, sl, e, fun σ' l' _ _ => ⟨ι, G, ρ1, S, l', ?_⟩⟩
    cases e2 : b ρ1 G with
    | next ρ' G' => rw [e2] at q1; exact fun ι2 H2 σ2 x2 S2 l2 => ⟨ι2, G', ρ', S2, l2, q1.ext x2⟩
    | cont ρ' G' => rw [e2] at q1; exact fun ι2 H2 σ2 x2 S2 l2 => ⟨ι2, G', ρ', S2, l2, q1.ext x2⟩
    | brk ρ' G' => rw [e2] at q1; exact q1
    | ret v G' => rw [e2] at q1; exact q1
    | exc c G' => rw [e2] at q1; exact q1
    | bad => rw [e2] at q1; exact q1
/-- the walk over items that stand still: J yields the items of l -/
theorem for_w {K : PySem.W.Frag} {J : It} {D : Ends} {l : List Val} {ι : Vw} {G : Store} {H : Hp} {ρ : Env1} {σ : L2.St}
    (item : ∀ (j : Nat) (ι' : Vw) (n' : Nat) (H' : Hp) v, Ext K ι G.length H ι' n' H' → l[j]? = some v → J.go j H' ∧ ∀ x H2, J.yld j H' x H2 → H2 = H' ∧ Rep K ι' n' H' v x)
    (stop : ∀ (ι' : Vw) (n' : Nat) (H' : Hp), Ext K ι G.length H ι' n' H' → J.stop l.length H')
    (S : Sim K ι G H) (sl : Slots K ι G.length H ρ σ) (q : SPost K E ι G.length H (forIt p b l ρ G) D) :
    ∃ W : Nat → Nat → L2.St → Hp → Prop, (∃ m, W 0 m σ H) ∧ ∀ i m σ H, W i m σ H →
      (J.stop i H ∧ D.nx σ H) ∨ (J.go i H ∧ ∃ N : L2.St → Hp → Prop, (∀ σ' H', N σ' H' → ∃ m', m' < m ∧ W (i + 1) m' σ' H') ∧ ∀ x H', J.yld i H x H' → tG K p x σ H' fun σ2 H2 => tS K E b { D with nx := N, ct := N, bk := D.nx } σ2 H2) := by
  refine ⟨fun i m σ' H' => ∃ ι' G' ρ', Ext K ι G.length H ι' G'.length H' ∧ Sim K ι' G' H' ∧ Slots K ι' G'.length H' ρ' σ' ∧ i + m = l.length ∧ SPost K E ι' G'.length H' (forIt p b (l.drop i) ρ' G') D, ⟨l.length, ι, G, ρ, .refl, S, sl, Nat.zero_add _, q⟩, ?_⟩
  rintro i m σ' H' ⟨ι', G', ρ', x', S', sl', hm, q'⟩
  cases m with
  | zero =>
    have hi : i = l.length := by omega
    subst hi
    rw [List.drop_length] at q'
    exact .inl ⟨stop ι' G'.length H' x', q' ι' H' σ' .refl S' sl'⟩
  | succ m =>
    have hi : i < l.length := by omega
    obtain ⟨v, hv⟩ : ∃ v, l[i]? = some v := ⟨l[i], List.getElem?_eq_getElem hi⟩
    obtain ⟨go, yld⟩ := item i ι' G'.length H' v x' hv
    have ed : l.drop i = v :: l.drop (i + 1) := by
      rw [List.drop_eq_getElem_cons hi]
      rw [List.getElem?_eq_getElem hi] at hv
      rw [Option.some.inj hv]
    rw [ed] at q'
    refine .inr ⟨go, fun σ2 H2 => ∃ ι2 G2 ρ2, Ext K ι G.length H ι2 G2.length H2 ∧ Sim K ι2 G2 H2 ∧ Slots K ι2 G2.length H2 ρ2 σ2 ∧ (i + 1) + m = l.length ∧ SPost K E ι2 G2.length H2 (forIt p b (l.drop (i + 1)) ρ2 G2) D, fun σ2 H2 h => ⟨m, Nat.lt_succ_self _, h⟩, fun x H2 hy => ?_⟩
    obtain ⟨rfl, rx⟩ := yld x H2 hy
    have q2 : SPost K E ι' G'.length H2 (turn1 p b v (forIt p b (l.drop (i + 1))) ρ' G') D := q'
    unfold turn1 at q2
    cases e : ptSet G' p v ρ' with
    | none => rw [e] at q2; exact q2.elim
    | some ρ1 =>
      rw [e] at q2
      have q1 : SPost K E ι' G'.length H2 (match b ρ1 G' with
        | .next ρ' G' => forIt p b (l.drop (i + 1)) ρ' G'
        | .cont ρ' G' => forIt p b (l.drop (i + 1)) ρ' G'
        | .brk ρ' G' => .next ρ' G'
        | r => r) D := q2
      refine ⟨ι', G', v, ρ', ρ1, S', rx, sl', e, fun σ3 l3 _ _ => ⟨ι', G', ρ1, S', l3, ?_⟩⟩
      cases e2 : b ρ1 G' with
      | next ρ4 G4 => rw [e2] at q1; exact fun ι2 H2 σ2 x2 S2 l2 => ⟨ι2, G4, ρ4, x'.trans x2, S2, l2, by omega, q1.ext x2⟩
      | cont ρ4 G4 => rw [e2] at q1; exact fun ι2 H2 σ2 x2 S2 l2 => ⟨ι2, G4, ρ4, x'.trans x2, S2, l2, by omega, q1.ext x2⟩
      | brk ρ4 G4 => rw [e2] at q1; exact q1
      | ret v G4 => rw [e2] at q1; exact q1
      | exc c G4 => rw [e2] at q1; exact q1
      | bad => rw [e2] at q1; exact q1
theorem itt_w {K : PySem.W.Frag} {a : Addr} {l : List Val} {xs : List V} {ι : Vw} {n : Nat} {H : Hp} (h : SqT K H a xs) (r : Reps K ι n H l xs) :
    (∀ (j : Nat) (ι' : Vw) (n' : Nat) (H' : Hp) v, Ext K ι n H ι' n' H' → l[j]? = some v → (Itt K a).go j H' ∧ ∀ x H2, (Itt K a).yld j H' x H2 → H2 = H' ∧ Rep K ι' n' H' v x) ∧
    (∀ (ι' : Vw) (n' : Nat) (H' : Hp), Ext K ι n H ι' n' H' → (Itt K a).stop l.length H') := by
  refine ⟨fun j ι' n' H' v x hv => ?_, fun ι' n' H' x => ⟨xs, x.tup a xs h, by rw [r.length]; exact Nat.le_refl _⟩⟩
  obtain ⟨y, hy, ry⟩ := r.get hv
  refine ⟨⟨xs, y, x.tup a xs h, hy⟩, fun z H2 ⟨e, k⟩ => ⟨e, ?_⟩⟩
  have q := k xs (x.tup a xs h)
  rw [hy] at q
  rw [← Option.some.inj q]
  exact ry.ext x
theorem itf_w {K : PySem.W.Frag} {a : Addr} {l : List Val} {xs : List V} {ι : Vw} {n : Nat} {H : Hp} (h : SqF ι.M H a xs) (r : Reps K ι n H l xs) :
    (∀ (j : Nat) (ι' : Vw) (n' : Nat) (H' : Hp) v, Ext K ι n H ι' n' H' → l[j]? = some v → (Itl K a).go j H' ∧ ∀ x H2, (Itl K a).yld j H' x H2 → H2 = H' ∧ Rep K ι' n' H' v x) ∧
    (∀ (ι' : Vw) (n' : Nat) (H' : Hp), Ext K ι n H ι' n' H' → (Itl K a).stop l.length H') := by
  refine ⟨fun j ι' n' H' v x hv => ?_, fun ι' n' H' x => ⟨xs, (x.fro a xs h).l, by rw [r.length]; exact Nat.le_refl _⟩⟩
  obtain ⟨y, hy, ry⟩ := r.get hv
  refine ⟨⟨xs, y, (x.fro a xs h).l, hy⟩, fun z H2 ⟨e, k⟩ => ⟨e, ?_⟩⟩
  have q := k xs (x.fro a xs h).l
  rw [hy] at q
  rw [← Option.some.inj q]
  exact ry.ext x
theorem itr_w {K : PySem.W.Frag} {lo : Int} {m : Nat} {ι : Vw} {n : Nat} {H : Hp} :
    (∀ (j : Nat) (ι' : Vw) (n' : Nat) (H' : Hp) v, Ext K ι n H ι' n' H' → (rangeL lo m)[j]? = some v → (Itr lo m).go j H' ∧ ∀ x H2, (Itr lo m).yld j H' x H2 → H2 = H' ∧ Rep K ι' n' H' v x) ∧
    (∀ (ι' : Vw) (n' : Nat) (H' : Hp), Ext K ι n H ι' n' H' → (Itr lo m).stop (rangeL lo m).length H') := by
  have hl : (rangeL lo m).length = m := by simp [rangeL]
  refine ⟨fun j ι' n' H' v x hv => ?_, fun ι' n' H' x => (by rw [hl]; exact Nat.le_refl m)⟩
  have hj : j < m := by rw [← hl]; exact (List.getElem?_eq_some_iff.mp hv).1
  refine ⟨hj, fun z H2 ⟨e1, e2⟩ => ⟨e1, ?_⟩⟩
  have e3 : v = .int (lo + (j : Nat)) := by
    unfold rangeL at hv
    rw [List.getElem?_map, List.getElem?_range hj] at hv
    exact (Option.some.inj hv).symm
  rw [e3, e2]
  exact rfl
theorem rs_forT (hp : PassesOwn (model X.prog X.w) X.A X.env X.xe) (hc : X.calm = true) (hi : RE X E iter mi) (hg : RG X tg p) (hb : RSs X E body b) (hs : ∀ x, foldedSetIterable iter X.env x = pure x := by intro _; rfl) :
    RS X E (.For tg iter body [] pos) (sForT mi p b) := by
  refine ps_weak (ps_for hp hc (pi_tup hi) hg hb hs) fun D σ H ⟨ι, G, ρ, S, sl, q⟩ => run1 S sl (q.ofRes.mono fun ι1 G1 H1 v x1 S1 q1 x rx => ?_)
  cases v with
  | tup l =>
    obtain ⟨a, xs, ex, h1, h2⟩ := rx
    exact ⟨a, ex, ⟨xs, h1⟩, for_w (itt_w h1 h2).1 (itt_w h1 h2).2 S1 (sl.ext x1) q1⟩
  | _ => exact q1.elim
/-- the walk over a list of the store -/
theorem forOb_w {K : PySem.W.Frag} {D : Ends} {l : List Val} {i : Nat} {ι : Vw} {G : Store} {H : Hp} {ρ : Env1} {σ : L2.St} (hi : i < G.length) (S : Sim K ι G H) (sl : Slots K ι G.length H ρ σ) (q : SPost K E ι G.length H (forOb p b i l 0 ρ G) D) :
    ∃ W : Nat → Nat → L2.St → Hp → Prop, (∃ m, W 0 m σ H) ∧ ∀ j m σ H, W j m σ H →
      ((Itl K (ι i)).stop j H ∧ D.nx σ H) ∨ ((Itl K (ι i)).go j H ∧ ∃ N : L2.St → Hp → Prop, (∀ σ' H', N σ' H' → ∃ m', m' < m ∧ W (j + 1) m' σ' H') ∧ ∀ x H', (Itl K (ι i)).yld j H x H' → tG K p x σ H' fun σ2 H2 => tS K E b { D with nx := N, ct := N, bk := D.nx } σ2 H2) := by
  refine ⟨fun j m σ' H' => ∃ ι' G' ρ' r, Ext K ι G.length H ι' G'.length H' ∧ Sim K ι' G' H' ∧ Slots K ι' G'.length H' ρ' σ' ∧ r.length = m ∧ SPost K E ι' G'.length H' (forOb p b i r j ρ' G') D, ⟨l.length, ι, G, ρ, l, .refl, S, sl, rfl, q⟩, ?_⟩
  rintro j m σ' H' ⟨ι', G', ρ', r, x', S', sl', hm, q'⟩
  have ea : ι' i = ι i := x'.same i hi
  cases r with
  | nil =>
    have q2 : SPost K E ι' G'.length H' (match G'[i]? with | some (.lst l) => (if l.length ≤ j then .next ρ' G' else .bad) | _ => .bad) D := q'
    cases e : G'[i]? with
    | none => rw [e] at q2; exact q2.elim
    | some o =>
      rw [e] at q2
      cases o with
      | lst l' =>
        have q3 : SPost K E ι' G'.length H' (if l'.length ≤ j then .next ρ' G' else .bad) D := q2
        by_cases hl : l'.length ≤ j
        · rw [if_pos hl] at q3
          obtain ⟨xs, h1, h2⟩ := S'.lst e
          rw [ea] at h1
          exact .inl ⟨⟨xs, .of h1, by rw [h2.length]; exact hl⟩, q3 ι' H' σ' .refl S' sl'⟩
        · rw [if_neg hl] at q3
          exact q3.elim
      | _ => exact q2.elim
  | cons w r =>
    have q2 : SPost K E ι' G'.length H' (match G'[i]? with | some (.lst l) => (match l[j]? with | some v => turn1 p b v (forOb p b i r (j + 1)) ρ' G' | none => .bad) | _ => .bad) D := q'
    cases e : G'[i]? with
    | none => rw [e] at q2; exact q2.elim
    | some o =>
      rw [e] at q2
      cases o with
      | lst l' =>
        have q3 : SPost K E ι' G'.length H' (match l'[j]? with | some v => turn1 p b v (forOb p b i r (j + 1)) ρ' G' | none => .bad) D := q2
        cases e2 : l'[j]? with
        | none => rw [e2] at q3; exact q3.elim
        | some v =>
          rw [e2] at q3
          obtain ⟨xs, h1, h2⟩ := S'.lst e
          rw [ea] at h1
          obtain ⟨y, hy, ry⟩ := h2.get e2
          have hm' : r.length < m := by rw [← hm]; exact Nat.lt_succ_self _
          refine .inr ⟨⟨xs, y, .of h1, hy⟩, fun σ2 H2 => ∃ ι2 G2 ρ2, Ext K ι G.length H ι2 G2.length H2 ∧ Sim K ι2 G2 H2 ∧ Slots K ι2 G2.length H2 ρ2 σ2 ∧ SPost K E ι2 G2.length H2 (forOb p b i r (j + 1) ρ2 G2) D, fun σ2 H2 ⟨ι2, G2, ρ2, a1, a2, a3, a4⟩ => ⟨r.length, hm', ι2, G2, ρ2, r, a1, a2, a3, rfl, a4⟩, fun x H2 ⟨eh, ky⟩ => ?_⟩
          subst eh
          have ex := ky xs (.of h1)
          rw [hy] at ex
          cases ex
          have q4 : SPost K E ι' G'.length H2 (turn1 p b v (forOb p b i r (j + 1)) ρ' G') D := q3
          unfold turn1 at q4
          cases e4 : ptSet G' p v ρ' with
          | none => rw [e4] at q4; exact q4.elim
          | some ρ1 =>
            rw [e4] at q4
            have q1 : SPost K E ι' G'.length H2 (match b ρ1 G' with
              | .next ρ' G' => forOb p b i r (j + 1) ρ' G'
              | .cont ρ' G' => forOb p b i r (j + 1) ρ' G'
              | .brk ρ' G' => .next ρ' G'
              | r => r) D := q4
            refine ⟨ι', G', v, ρ', ρ1, S', ry, sl', e4, fun σ3 l3 _ _ => ⟨ι', G', ρ1, S', l3, ?_⟩⟩
            cases e5 : b ρ1 G' with
            | next ρ4 G4 => rw [e5] at q1; exact fun ι2 H2 σ2 x2 S2 l2 => ⟨ι2, G4, ρ4, x'.trans x2, S2, l2, q1.ext x2⟩
            | cont ρ4 G4 => rw [e5] at q1; exact fun ι2 H2 σ2 x2 S2 l2 => ⟨ι2, G4, ρ4, x'.trans x2, S2, l2, q1.ext x2⟩
            | brk ρ4 G4 => rw [e5] at q1; exact q1
            | ret v G4 => rw [e5] at q1; exact q1
            | exc c G4 => rw [e5] at q1; exact q1
            | bad => rw [e5] at q1; exact q1
      | _ => exact q2.elim
theorem rs_forL (hp : PassesOwn (model X.prog X.w) X.A X.env X.xe) (hc : X.calm = true) (hi : RE X E iter mi) (hg : RG X tg p) (hb : RSs X E body b) (hs : ∀ x, foldedSetIterable iter X.env x = pure x := by intro _; rfl) :
    RS X E (.For tg iter body [] pos) (sForL mi p b) := by
  refine ps_weak (ps_for hp hc (pi_list hi) hg hb hs) fun D σ H ⟨ι, G, ρ, S, sl, q⟩ => run1 S sl (q.ofRes.mono fun ι1 G1 H1 v x1 S1 q1 x rx => ?_)
  cases v with
  | fro l =>
    obtain ⟨a, xs, ex, h1, h2⟩ := rx
    exact ⟨a, ex, ⟨xs, h1.l⟩, for_w (itf_w h1 h2).1 (itf_w h1 h2).2 S1 (sl.ext x1) q1⟩
  | obj i =>
    cases e : G1[i]? with
    | none => simp only [e] at q1; exact q1.elim
    | some o =>
      simp only [e] at q1
      cases o with
      | lst l =>
        obtain ⟨xs, h1, h2⟩ := S1.lst e
        exact ⟨ι1 i, rx.2, ⟨xs, .of h1⟩, forOb_w rx.1 S1 (sl.ext x1) q1⟩
      | _ => exact q1.elim
  | _ => exact q1.elim
theorem rng1_inv {K : PySem.W.Frag} {ι : Vw} {n : Nat} {H : Hp} {vs l : List Val} {xs : List V} (r : Reps K ι n H vs xs) (h : rng1 vs = some l) :
    ∃ j : Int, xs = [.int j] ∧ -(2 ^ 62) ≤ j ∧ j < 2 ^ 62 ∧ l = rangeL 0 j.toNat := by
  unfold rng1 at h
  cases vs with
  | nil => cases h
  | cons v vs =>
    cases vs with
    | nil =>
      cases v with
      | int j =>
        have h1 : (if inLine j = true then some (rangeL 0 j.toNat) else none) = some l := h
        by_cases c : inLine j = true
        · rw [if_pos c] at h1
          obtain ⟨c1, c2⟩ := Bool.and_eq_true_iff.mp c
          obtain ⟨x, rfl, rx⟩ := reps1 r
          exact ⟨j, by rw [show x = V.int j from rx], of_decide_eq_true c1, of_decide_eq_true c2, (Option.some.inj h1).symm⟩
        · rw [if_neg c] at h1
          cases h1
      | _ => cases h
    | cons w vs => cases v <;> cases h
theorem rng2_inv {K : PySem.W.Frag} {ι : Vw} {n : Nat} {H : Hp} {vs l : List Val} {xs : List V} (r : Reps K ι n H vs xs) (h : rng2 vs = some l) :
    ∃ i j : Int, xs = [.int i, .int j] ∧ (-(2 ^ 62) ≤ i ∧ i < 2 ^ 62 ∧ -(2 ^ 62) ≤ j ∧ j < 2 ^ 62) ∧ l = rangeL i (j - i).toNat := by
  unfold rng2 at h
  cases vs with
  | nil => cases h
  | cons v vs =>
    cases vs with
    | nil => cases v <;> cases h
    | cons w vs =>
      cases vs with
      | cons _ _ => cases v <;> (try cases h) <;> (cases w <;> cases h)
      | nil =>
        cases v with
        | int i =>
          cases w with
          | int j =>
            have h1 : (if inLine i = true ∧ inLine j = true then some (rangeL i (j - i).toNat) else none) = some l := h
            by_cases c : inLine i = true ∧ inLine j = true
            · rw [if_pos c] at h1
              obtain ⟨c1, c2⟩ := Bool.and_eq_true_iff.mp c.1
              obtain ⟨c3, c4⟩ := Bool.and_eq_true_iff.mp c.2
              obtain ⟨x, y, rfl, rx, ry⟩ := reps2 r
              exact ⟨i, j, by rw [show x = V.int i from rx, show y = V.int j from ry], ⟨of_decide_eq_true c1, of_decide_eq_true c2, of_decide_eq_true c3, of_decide_eq_true c4⟩, (Option.some.inj h1).symm⟩
            · rw [if_neg c] at h1
              cases h1
          | _ => cases h
        | _ => cases h
theorem rs_forR1 {a : Expr} {ma : AM} {pr pos' : Pos} (hp : PassesOwn (model X.prog X.w) X.A X.env X.xe) (hc : X.calm = true) (hgl : Gl X "range") (hm : X.mg "range" = none) (ha : RA X E [a] ma) (hg : RG X tg p) (hb : RSs X E body b)
    (hs1 : starEach [a] X.env = [(false, eval a X.env)] := by rfl) (hs : ∀ x, foldedSetIterable (.Call (.Name "range" pr) [a] [] pos') X.env x = pure x := by intro _; rfl) :
    RS X E (.For tg (.Call (.Name "range" pr) [a] [] pos') body [] pos) (sForR rng1 ma p b) := by
  refine ps_weak (ps_for hp hc (pi_range1 hgl hm ha hs1) hg hb hs) fun D σ H ⟨ι, G, ρ, S, sl, q⟩ => ⟨ι, G, ρ, S, sl, q.ofRes.mono fun ι1 G1 H1 vs x1 S1 q1 xs rxs => ?_⟩
  cases e : rng1 vs with
  | none => rw [e] at q1; exact q1.elim
  | some l =>
    rw [e] at q1
    obtain ⟨j, e1, h1, h2, rfl⟩ := rng1_inv rxs e
    exact ⟨j, e1, h1, h2, for_w itr_w.1 itr_w.2 S1 (sl.ext x1) q1⟩
theorem rs_forR2 {a c : Expr} {ma : AM} {pr pos' : Pos} (hp : PassesOwn (model X.prog X.w) X.A X.env X.xe) (hc : X.calm = true) (hgl : Gl X "range") (hm : X.mg "range" = none) (ha : RA X E [a, c] ma) (hg : RG X tg p) (hb : RSs X E body b)
    (hs1 : starEach [a, c] X.env = [(false, eval a X.env), (false, eval c X.env)] := by rfl) (hs2 : starEach [c] X.env = [(false, eval c X.env)] := by rfl) (hs : ∀ x, foldedSetIterable (.Call (.Name "range" pr) [a, c] [] pos') X.env x = pure x := by intro _; rfl) :
    RS X E (.For tg (.Call (.Name "range" pr) [a, c] [] pos') body [] pos) (sForR rng2 ma p b) := by
  refine ps_weak (ps_for hp hc (pi_range2 hgl hm ha hs1 hs2) hg hb hs) fun D σ H ⟨ι, G, ρ, S, sl, q⟩ => ⟨ι, G, ρ, S, sl, q.ofRes.mono fun ι1 G1 H1 vs x1 S1 q1 xs rxs => ?_⟩
  cases e : rng2 vs with
  | none => rw [e] at q1; exact q1.elim
  | some l =>
    rw [e] at q1
    obtain ⟨i, j, e1, h1, rfl⟩ := rng2_inv rxs e
    exact ⟨i, j, e1, h1, for_w itr_w.1 itr_w.2 S1 (sl.ext x1) q1⟩
end
end R1

/-! R1f: comprehensions; walks over dicts. -/
namespace R1
open PySem PySem.Spec PyProof.Rows L2

theorem run2 {K : PySem.W.Frag} {E : XK} {ma : EM} {σ : L2.St} {H : Hp} {ι : Vw} {G : Store} {ρ : Env1} {R : V → Hp → Prop} (S : Sim K ι G H) (sl : Slots K ι G.length H ρ σ)
    (h : Post K E ι G.length H (ma ρ G) fun ι' G' H' v => ∀ x, Rep K ι' G'.length H' v x → R x H') : tE K E ma σ H R := ⟨ι, G, ρ, S, sl, h⟩
def wipe1 (ρ : Env1) : List Nat → Env1
  | [] => ρ
  | v :: vs => (wipe1 ρ vs).set v none
def tTrue : TM := fun _ G => .ok true G
/-- one item more in the list D -/
def push1 (D : Nat) (v : Val) (G : Store) : Option Store := match G[D]? with
  | some (.lst acc) => if acc.length < sizeLine then some (G.set D (.lst (acc ++ [v]))) else none
  | _ => none
/-- one turn of a comprehension; go on with k -/
def lcTurn (p : Pt) (tt : TM) (te : EM) (ρw : Env1) (D : Nat) (v : Val) (k : Store → Res Unit) (G : Store) : Res Unit := match ptSet G p v ρw with
  | none => .bad
  | some ρ2 => (tt ρ2 G).bind fun b G1 => if b = true then (te ρ2 G1).bind fun w G2 => (match push1 D w G2 with
      | some G3 => k G3
      | none => .bad) else k G1
def lcIt (p : Pt) (tt : TM) (te : EM) (ρw : Env1) (D : Nat) : List Val → Store → Res Unit
  | [], G => .ok () G
  | v :: r, G => lcTurn p tt te ρw D v (lcIt p tt te ρw D r) G
def lcOb (p : Pt) (tt : TM) (te : EM) (ρw : Env1) (D : Nat) (i : Nat) : List Val → Nat → Store → Res Unit
  | [], k, G => (match G[i]? with
    | some (.lst l) => if l.length ≤ k then .ok () G else .bad
    | _ => .bad)
  | _ :: r, k, G => (match G[i]? with
    | some (.lst l) => (match l[k]? with
      | some v => lcTurn p tt te ρw D v (lcOb p tt te ρw D i r (k + 1)) G
      | none => .bad)
    | _ => .bad)
/-- [te for p in m if tt]: m a list -/
def eLcL (m : EM) (p : Pt) (tt : TM) (te : EM) (own : List Nat) : EM := fun ρ G => (m ρ G).bind fun v G1 => match v with
  | .fro l => (lcIt p tt te (wipe1 ρ own) G1.length l (G1 ++ [.lst []])).bind fun _ G3 => .ok (.obj G1.length) G3
  | .obj i => (match G1[i]? with
    | some (.lst l) => (lcOb p tt te (wipe1 ρ own) G1.length i l 0 (G1 ++ [.lst []])).bind fun _ G3 => .ok (.obj G1.length) G3
    | _ => .bad)
  | _ => .bad
def eLcT (m : EM) (p : Pt) (tt : TM) (te : EM) (own : List Nat) : EM := fun ρ G => (m ρ G).bind fun v G1 => match v with
  | .tup l => (lcIt p tt te (wipe1 ρ own) G1.length l (G1 ++ [.lst []])).bind fun _ G3 => .ok (.obj G1.length) G3
  | _ => .bad
def eLcR (rng : List Val → Option (List Val)) (m : AM) (p : Pt) (tt : TM) (te : EM) (own : List Nat) : EM := fun ρ G => (m ρ G).bind fun vs G1 => match rng vs with
  | some l => (lcIt p tt te (wipe1 ρ own) G1.length l (G1 ++ [.lst []])).bind fun _ G3 => .ok (.obj G1.length) G3
  | none => .bad
theorem wipe_get {σ : L2.St} : ∀ {vs : List Nat} {j : Nat}, (wipe σ vs)[j]? = if j ∈ vs then (σ[j]?).map (fun _ => none) else σ[j]?
  | [], j => by simp [wipe]
  | v :: vs, j => by
    unfold wipe
    rw [List.getElem?_set]
    by_cases h : v = j
    · subst h
      rw [if_pos rfl, if_pos (List.mem_cons_self ..), wipe_length]
      by_cases hl : v < σ.length
      · rw [if_pos hl, List.getElem?_eq_getElem hl]
        rfl
      · rw [if_neg hl, List.getElem?_eq_none (Nat.le_of_not_lt hl)]
        rfl
    · rw [if_neg h, wipe_get]
      by_cases hm : j ∈ vs
      · rw [if_pos hm, if_pos (List.mem_cons_of_mem _ hm)]
      · rw [if_neg hm, if_neg fun q => (List.mem_cons.mp q).elim (fun e => h e.symm) hm]
theorem wipe_same {σ σ2 : L2.St} {vs l : List Nat} (hl : ∀ i ∈ l, i ∈ vs) (hn : σ2.length = (wipe σ vs).length) (h : ∀ j, j ∉ l → σ2[j]? = (wipe σ vs)[j]?) : wipe σ2 vs = wipe σ vs := by
  refine List.ext_getElem? fun j => ?_
  rw [wipe_get]
  rw [wipe_length] at hn
  by_cases hm : j ∈ vs
  · rw [if_pos hm, wipe_get, if_pos hm]
    by_cases hj : j < σ.length
    · rw [List.getElem?_eq_getElem hj, List.getElem?_eq_getElem (by omega)]
      rfl
    · rw [List.getElem?_eq_none (by omega), List.getElem?_eq_none (by omega)]
  · rw [if_neg hm]
    exact h j fun q => hm (hl j q)
section
variable {K : PySem.W.Frag} {ι : Vw} {n : Nat} {H : Hp}
theorem Slots.wipe {ρ : Env1} {σ : L2.St} (h : Slots K ι n H ρ σ) : ∀ vs : List Nat, Slots K ι n H (wipe1 ρ vs) (L2.wipe σ vs)
  | [] => h
  | v :: vs => (Slots.wipe h vs).drop v none
end
section
variable {K : PySem.W.Frag} {E : XK} {p : Pt} {tt : TM} {te : EM} {own : List Nat}
/-- what a turn asks -/
theorem lc_turn {ι : Vw} {G : Store} {H : Hp} {ρ : Env1} {σ : L2.St} {v : Val} {x : V} {D : Nat} {k : Store → Res Unit} {R : Vw → Store → Hp → Unit → Prop} (hD : D < G.length) (ho : ∀ i ∈ p.slots, i ∈ own) (S : Sim K ι G H) (rx : Rep K ι G.length H v x) (sl : Slots K ι G.length H (wipe1 ρ own) (L2.wipe σ own))
    (q : Post K E ι G.length H (lcTurn p tt te (wipe1 ρ own) D v k G) R) {N : Hp → Prop} (hN : ∀ ι' G' H', Ext K ι G.length H ι' G'.length H' → Sim K ι' G' H' → Post K E ι' G'.length H' (k G') R → N H') :
    tG K p x (L2.wipe σ own) H fun σ2 H2 => L2.wipe σ2 own = L2.wipe σ own ∧ tT K E tt σ2 H2 fun b H3 => if b = true then tE K E te σ2 H3 fun y H4 => ∃ acc, H4 (ι D) = some (.lst acc) ∧ acc.length < sizeLine ∧ N (L2.upd H4 (ι D) (.lst (acc ++ [y]))) else N H3 := by
  unfold lcTurn at q
  cases e : ptSet G p v (wipe1 ρ own) with
  | none => rw [e] at q; exact q.elim
  | some ρ2 =>
    rw [e] at q
    refine ⟨ι, G, v, wipe1 ρ own, ρ2, S, rx, sl, e, fun σ' l' hl hj => ⟨wipe_same ho hl hj, ι, G, ρ2, S, l', (Post.bind q).mono fun ι1 G1 H1 b x1 S1 q1 => ?_⟩⟩
    cases b with
    | false => exact hN ι1 G1 H1 x1 S1 q1
    | true =>
      refine run2 S1 (l'.ext x1) ((Post.bind q1).mono fun ι2 G2 H2 w x2 S2 q2 y ry => ?_)
      have eD : ι2 D = ι D := (x2.same D (Nat.lt_of_lt_of_le hD x1.le)).trans (x1.same D hD)
      have q3 : Post K E ι2 G2.length H2 (match push1 D w G2 with | some G3 => k G3 | none => .bad) R := q2
      cases e3 : push1 D w G2 with
      | none => rw [e3] at q3; exact q3.elim
      | some G3 =>
        rw [e3] at q3
        unfold push1 at e3
        cases e4 : G2[D]? with
        | none => rw [e4] at e3; cases e3
        | some o =>
          rw [e4] at e3
          cases o with
          | lst acc =>
            have e5 : (if acc.length < sizeLine then some (G2.set D (.lst (acc ++ [w]))) else none) = some G3 := e3
            by_cases hl : acc.length < sizeLine
            · rw [if_pos hl] at e5
              cases e5
              obtain ⟨xs, h1, h2⟩ := S2.lst e4
              have h2' := h2.length
              obtain ⟨s1, s2⟩ := S2.set (u := .lst (xs ++ [y])) (o := .lst (acc ++ [w])) e4 rfl ⟨xs ++ [y], upd_same, (h2.append (Reps.one ry)).ext (Ext.updE (S2.fr e4 h1 trivial))⟩
              rw [eD] at h1 s1 s2
              exact ⟨xs, h1, by rw [h2']; exact hl, hN ι2 _ _ ((x1.trans x2).trans s2) s1 (q3.ext s2)⟩
            · rw [if_neg hl] at e5
              cases e5
          | _ => cases e3
/-- the new list -/
theorem lc_new {ι : Vw} {G : Store} {H : Hp} {D : Addr} (S : Sim K ι G H) (hD : H D = none) : Sim K (into ι G.length D) (G ++ [.lst []]) (L2.upd H D (.lst [])) ∧ Ext K ι G.length H (into ι G.length D) (G ++ [Ob.lst []]).length (L2.upd H D (.lst [])) := by
  refine ⟨S.push hD ⟨[], upd_same, rfl⟩, ?_⟩
  rw [List.length_append, List.length_singleton]
  exact Ext.push hD
theorem lc_w {J : It} {l : List Val} {ι : Vw} {G : Store} {H : Hp} {ρ : Env1} {σ : L2.St} {Q : VK} (ho : ∀ i ∈ p.slots, i ∈ own)
    (item : ∀ (j : Nat) (ι' : Vw) (n' : Nat) (H' : Hp) v, Ext K ι G.length H ι' n' H' → l[j]? = some v → J.go j H' ∧ ∀ x H2, J.yld j H' x H2 → H2 = H' ∧ Rep K ι' n' H' v x)
    (stop : ∀ (ι' : Vw) (n' : Nat) (H' : Hp), Ext K ι G.length H ι' n' H' → J.stop l.length H')
    (S : Sim K ι G H) (sl : Slots K ι G.length H ρ σ) (q : Post K E ι G.length H ((lcIt p tt te (wipe1 ρ own) G.length l (G ++ [.lst []])).bind fun _ G3 => .ok (.obj G.length) G3) fun ι' G' H' v => ∀ x, Rep K ι' G'.length H' v x → Q x H') :
    ∀ D, H D = none → ∃ W : Nat → Nat → Hp → Prop, (∃ m, W 0 m (L2.upd H D (.lst []))) ∧ ∀ i m H, W i m H →
      (J.stop i H ∧ Q (.ref D) H) ∨ (J.go i H ∧ ∃ Nx : Hp → Prop, (∀ H', Nx H' → ∃ m', m' < m ∧ W (i + 1) m' H') ∧ ∀ x H', J.yld i H x H' → tG K p x (L2.wipe σ own) H' fun σ2 H2 => L2.wipe σ2 own = L2.wipe σ own ∧ tT K E tt σ2 H2 fun b H3 =>
        if b = true then tE K E te σ2 H3 fun y H4 => ∃ acc, H4 D = some (.lst acc) ∧ acc.length < sizeLine ∧ Nx (L2.upd H4 D (.lst (acc ++ [y]))) else Nx H3) := fun D hD => by
  obtain ⟨S2, x2⟩ := lc_new S hD
  have hl2 : (G ++ [Ob.lst []]).length = G.length + 1 := by rw [List.length_append, List.length_singleton]
  have q0 := Post.bind (q.ext x2)
  refine ⟨fun i m H' => ∃ ι' G', Ext K (into ι G.length D) (G ++ [Ob.lst []]).length (L2.upd H D (.lst [])) ι' G'.length H' ∧ Sim K ι' G' H' ∧ i + m = l.length ∧
    Post K E ι' G'.length H' (lcIt p tt te (wipe1 ρ own) G.length (l.drop i) G') (fun ι' G' H' _ => Post K E ι' G'.length H' (Res.ok (Val.obj G.length) G') fun ι' G' H' v => ∀ x, Rep K ι' G'.length H' v x → Q x H'), ⟨l.length, _, _, .refl, S2, Nat.zero_add _, q0⟩, ?_⟩
  rintro i m H' ⟨ι', G', x', S', hm, q'⟩
  have eD : ι' G.length = D := by rw [x'.same G.length (by rw [hl2]; exact Nat.lt_succ_self _), into_eq]
  have hDl : G.length < G'.length := Nat.lt_of_lt_of_le (by rw [hl2]; exact Nat.lt_succ_self _) x'.le
  cases m with
  | zero =>
    have hi : i = l.length := by omega
    subst hi
    rw [List.drop_length] at q'
    exact .inl ⟨stop ι' G'.length H' (x2.trans x'), (q'.here S').here S' (.ref D) ⟨hDl, by rw [eD]⟩⟩
  | succ m =>
    have hi : i < l.length := by omega
    obtain ⟨v, hv⟩ : ∃ v, l[i]? = some v := ⟨l[i], List.getElem?_eq_getElem hi⟩
    obtain ⟨go, yld⟩ := item i ι' G'.length H' v (x2.trans x') hv
    have ed : l.drop i = v :: l.drop (i + 1) := by
      rw [List.drop_eq_getElem_cons hi]
      rw [List.getElem?_eq_getElem hi] at hv
      rw [Option.some.inj hv]
    rw [ed] at q'
    refine .inr ⟨go, fun H2 => ∃ ι2 G2, Ext K (into ι G.length D) (G ++ [Ob.lst []]).length (L2.upd H D (.lst [])) ι2 G2.length H2 ∧ Sim K ι2 G2 H2 ∧ (i + 1) + m = l.length ∧
      Post K E ι2 G2.length H2 (lcIt p tt te (wipe1 ρ own) G.length (l.drop (i + 1)) G2) (fun ι' G' H' _ => Post K E ι' G'.length H' (Res.ok (Val.obj G.length) G') fun ι' G' H' v => ∀ x, Rep K ι' G'.length H' v x → Q x H'), fun H2 h => ⟨m, Nat.lt_succ_self _, h⟩, fun x H2 hy => ?_⟩
    obtain ⟨rfl, rx⟩ := yld x H2 hy
    have t := lc_turn (tt := tt) (te := te) (k := lcIt p tt te (wipe1 ρ own) G.length (l.drop (i + 1))) (σ := σ) hDl ho S' rx ((sl.wipe own).ext (x2.trans x')) q'
      (N := fun H2 => ∃ ι2 G2, Ext K (into ι G.length D) (G ++ [Ob.lst []]).length (L2.upd H D (.lst [])) ι2 G2.length H2 ∧ Sim K ι2 G2 H2 ∧ (i + 1) + m = l.length ∧
        Post K E ι2 G2.length H2 (lcIt p tt te (wipe1 ρ own) G.length (l.drop (i + 1)) G2) (fun ι' G' H' _ => Post K E ι' G'.length H' (Res.ok (Val.obj G.length) G') fun ι' G' H' v => ∀ x, Rep K ι' G'.length H' v x → Q x H'))
      (fun ι2 G2 H2 x2 S2 q2 => ⟨ι2, G2, x'.trans x2, S2, by omega, q2⟩)
    rw [eD] at t
    exact t
theorem lcOb_w {l : List Val} {i : Nat} {ι : Vw} {G : Store} {H : Hp} {ρ : Env1} {σ : L2.St} {Q : VK} (ho : ∀ i ∈ p.slots, i ∈ own) (hi : i < G.length)
    (S : Sim K ι G H) (sl : Slots K ι G.length H ρ σ) (q : Post K E ι G.length H ((lcOb p tt te (wipe1 ρ own) G.length i l 0 (G ++ [.lst []])).bind fun _ G3 => .ok (.obj G.length) G3) fun ι' G' H' v => ∀ x, Rep K ι' G'.length H' v x → Q x H') :
    ∀ D, H D = none → ∃ W : Nat → Nat → Hp → Prop, (∃ m, W 0 m (L2.upd H D (.lst []))) ∧ ∀ j m H, W j m H →
      ((Itl K (ι i)).stop j H ∧ Q (.ref D) H) ∨ ((Itl K (ι i)).go j H ∧ ∃ Nx : Hp → Prop, (∀ H', Nx H' → ∃ m', m' < m ∧ W (j + 1) m' H') ∧ ∀ x H', (Itl K (ι i)).yld j H x H' → tG K p x (L2.wipe σ own) H' fun σ2 H2 => L2.wipe σ2 own = L2.wipe σ own ∧ tT K E tt σ2 H2 fun b H3 =>
        if b = true then tE K E te σ2 H3 fun y H4 => ∃ acc, H4 D = some (.lst acc) ∧ acc.length < sizeLine ∧ Nx (L2.upd H4 D (.lst (acc ++ [y]))) else Nx H3) := fun D hD => by
  obtain ⟨S2, x2⟩ := lc_new S hD
  have hl2 : (G ++ [Ob.lst []]).length = G.length + 1 := by rw [List.length_append, List.length_singleton]
  have q0 := Post.bind (q.ext x2)
  refine ⟨fun j m H' => ∃ ι' G' r, Ext K (into ι G.length D) (G ++ [Ob.lst []]).length (L2.upd H D (.lst [])) ι' G'.length H' ∧ Sim K ι' G' H' ∧ r.length = m ∧
    Post K E ι' G'.length H' (lcOb p tt te (wipe1 ρ own) G.length i r j G') (fun ι' G' H' _ => Post K E ι' G'.length H' (Res.ok (Val.obj G.length) G') fun ι' G' H' v => ∀ x, Rep K ι' G'.length H' v x → Q x H'), ⟨l.length, _, _, l, .refl, S2, rfl, q0⟩, ?_⟩
  rintro j m H' ⟨ι', G', r, x', S', hm, q'⟩
  have eD : ι' G.length = D := by rw [x'.same G.length (by rw [hl2]; exact Nat.lt_succ_self _), into_eq]
  have hDl : G.length < G'.length := Nat.lt_of_lt_of_le (by rw [hl2]; exact Nat.lt_succ_self _) x'.le
  have ea : ι' i = ι i := (x2.trans x').same i hi
  cases r with
  | nil =>
    unfold lcOb at q'
    cases e : G'[i]? with
    | none => rw [e] at q'; exact q'.elim
    | some o =>
      rw [e] at q'
      cases o with
      | lst l' =>
        dsimp only at q'
        by_cases hl : l'.length ≤ j
        · rw [if_pos hl] at q'
          obtain ⟨xs, h1, h2⟩ := S'.lst e
          rw [ea] at h1
          exact .inl ⟨⟨xs, .of h1, by rw [h2.length]; exact hl⟩, (q'.here S').here S' (.ref D) ⟨hDl, by rw [eD]⟩⟩
        · rw [if_neg hl] at q'
          exact q'.elim
      | _ => exact q'.elim
  | cons w r =>
    unfold lcOb at q'
    cases e : G'[i]? with
    | none => rw [e] at q'; exact q'.elim
    | some o =>
      rw [e] at q'
      cases o with
      | lst l' =>
        dsimp only at q'
        cases e2 : l'[j]? with
        | none => rw [e2] at q'; exact q'.elim
        | some v =>
          rw [e2] at q'
          obtain ⟨xs, h1, h2⟩ := S'.lst e
          rw [ea] at h1
          obtain ⟨y, hy, ry⟩ := h2.get e2
          have hm' : r.length < m := by rw [← hm]; exact Nat.lt_succ_self _
          refine .inr ⟨⟨xs, y, .of h1, hy⟩, fun H2 => ∃ ι2 G2, Ext K (into ι G.length D) (G ++ [Ob.lst []]).length (L2.upd H D (.lst [])) ι2 G2.length H2 ∧ Sim K ι2 G2 H2 ∧
            Post K E ι2 G2.length H2 (lcOb p tt te (wipe1 ρ own) G.length i r (j + 1) G2) (fun ι' G' H' _ => Post K E ι' G'.length H' (Res.ok (Val.obj G.length) G') fun ι' G' H' v => ∀ x, Rep K ι' G'.length H' v x → Q x H'), fun H2 ⟨ι2, G2, a1, a2, a3⟩ => ⟨r.length, hm', ι2, G2, r, a1, a2, rfl, a3⟩, fun x H2 ⟨eh, ky⟩ => ?_⟩
          subst eh
          have ex := ky xs (.of h1)
          rw [hy] at ex
          cases ex
          have t := lc_turn (tt := tt) (te := te) (k := lcOb p tt te (wipe1 ρ own) G.length i r (j + 1)) (σ := σ) hDl ho S' ry ((sl.wipe own).ext (x2.trans x')) q'
            (N := fun H2 => ∃ ι2 G2, Ext K (into ι G.length D) (G ++ [Ob.lst []]).length (L2.upd H D (.lst [])) ι2 G2.length H2 ∧ Sim K ι2 G2 H2 ∧
              Post K E ι2 G2.length H2 (lcOb p tt te (wipe1 ρ own) G.length i r (j + 1) G2) (fun ι' G' H' _ => Post K E ι' G'.length H' (Res.ok (Val.obj G.length) G') fun ι' G' H' v => ∀ x, Rep K ι' G'.length H' v x → Q x H'))
            (fun ι2 G2 H2 x2 S2 q2 => ⟨ι2, G2, x'.trans x2, S2, q2⟩)
          rw [eD] at t
          exact t
      | _ => exact q'.elim
end
section
variable {X : Cx} {E : XK} {tg iter elt : Expr} {ifs : List Expr} {scope : Scope} {own : List (Str × Nat)} {mi te : EM} {tt : TM} {p : Pt} {pos : Pos}
theorem rts_nil {Y : Cx} : PTs Y [] (tT Y.K E tTrue) := ⟨fun pins s σ H Q I ⟨ι, G, ρ, S, sl, p⟩ => pts_nil.run pins s σ H Q I (p.here S)⟩
theorem rts_one {Y : Cx} {c : Expr} (h : RT Y E c tt) : PTs Y [c] (tT Y.K E tt) := pts_one h
abbrev Blk (X : Cx) (scope : Scope) (s : Shared) (H : Hp) (C : Addr) (cl : List (Str × Addr)) (fp : List Addr) : Cx := X.blk s H scope (compEnvC scope cl C X.env) fp
theorem re_lcL (hc : X.calm = true) (hN : X.N.Nodup) (hi : RE X E iter mi) (ok : BlkOk X.N X.env.scope scope own) (ho : ∀ i ∈ p.slots, i ∈ own.map (·.2))
    (hg : ∀ s H C cl fp, RG (Blk X scope s H C cl fp) tg p) (ht : ∀ s H C cl fp, PTs (Blk X scope s H C cl fp) ifs (tT X.K E tt)) (he : ∀ s H C cl fp, RE (Blk X scope s H C cl fp) E elt te)
    (hs : ∀ x, foldedSetIterable iter X.env x = pure x := by intro _; rfl) : RE X E (.ListComp elt [⟨tg, iter, ifs, 0⟩] scope pos) (eLcL mi p tt te (own.map (·.2))) := by
  refine pe_weak (pe_lc (g := tG X.K p) (tt := tT X.K E tt) (te := tE X.K E te) hc hN (pi_list hi) ok hg ht he hs) fun σ H Q ⟨ι, G, ρ, S, sl, q⟩ => run1 S sl ((Post.bind q).mono fun ι1 G1 H1 v x1 S1 q1 x rx => ?_)
  cases v with
  | fro l =>
    obtain ⟨a, xs, ex, h1, h2⟩ := rx
    exact ⟨a, ex, ⟨xs, h1.l⟩, lc_w ho (itf_w h1 h2).1 (itf_w h1 h2).2 S1 (sl.ext x1) q1⟩
  | obj i =>
    cases e : G1[i]? with
    | none => simp only [e] at q1; exact q1.elim
    | some o =>
      simp only [e] at q1
      cases o with
      | lst l =>
        obtain ⟨xs, h1, h2⟩ := S1.lst e
        exact ⟨ι1 i, rx.2, ⟨xs, .of h1⟩, lcOb_w ho rx.1 S1 (sl.ext x1) q1⟩
      | _ => exact q1.elim
  | _ => exact q1.elim
theorem re_lcT (hc : X.calm = true) (hN : X.N.Nodup) (hi : RE X E iter mi) (ok : BlkOk X.N X.env.scope scope own) (ho : ∀ i ∈ p.slots, i ∈ own.map (·.2))
    (hg : ∀ s H C cl fp, RG (Blk X scope s H C cl fp) tg p) (ht : ∀ s H C cl fp, PTs (Blk X scope s H C cl fp) ifs (tT X.K E tt)) (he : ∀ s H C cl fp, RE (Blk X scope s H C cl fp) E elt te)
    (hs : ∀ x, foldedSetIterable iter X.env x = pure x := by intro _; rfl) : RE X E (.ListComp elt [⟨tg, iter, ifs, 0⟩] scope pos) (eLcT mi p tt te (own.map (·.2))) := by
  refine pe_weak (pe_lc (g := tG X.K p) (tt := tT X.K E tt) (te := tE X.K E te) hc hN (pi_tup hi) ok hg ht he hs) fun σ H Q ⟨ι, G, ρ, S, sl, q⟩ => run1 S sl ((Post.bind q).mono fun ι1 G1 H1 v x1 S1 q1 x rx => ?_)
  cases v with
  | tup l =>
    obtain ⟨a, xs, ex, h1, h2⟩ := rx
    exact ⟨a, ex, ⟨xs, h1⟩, lc_w ho (itt_w h1 h2).1 (itt_w h1 h2).2 S1 (sl.ext x1) q1⟩
  | _ => exact q1.elim
theorem re_lcR1 {a : Expr} {ma : AM} {pr pos' : Pos} (hc : X.calm = true) (hN : X.N.Nodup) (hgl : Gl X "range") (hm : X.mg "range" = none) (ha : RA X E [a] ma) (ok : BlkOk X.N X.env.scope scope own) (ho : ∀ i ∈ p.slots, i ∈ own.map (·.2))
    (hg : ∀ s H C cl fp, RG (Blk X scope s H C cl fp) tg p) (ht : ∀ s H C cl fp, PTs (Blk X scope s H C cl fp) ifs (tT X.K E tt)) (he : ∀ s H C cl fp, RE (Blk X scope s H C cl fp) E elt te)
    (hs1 : starEach [a] X.env = [(false, eval a X.env)] := by rfl) (hs : ∀ x, foldedSetIterable (.Call (.Name "range" pr) [a] [] pos') X.env x = pure x := by intro _; rfl) :
    RE X E (.ListComp elt [⟨tg, .Call (.Name "range" pr) [a] [] pos', ifs, 0⟩] scope pos) (eLcR rng1 ma p tt te (own.map (·.2))) := by
  refine pe_weak (pe_lc (g := tG X.K p) (tt := tT X.K E tt) (te := tE X.K E te) hc hN (pi_range1 hgl hm ha hs1) ok hg ht he hs) fun σ H Q ⟨ι, G, ρ, S, sl, q⟩ => ⟨ι, G, ρ, S, sl, (Post.bind q).mono fun ι1 G1 H1 vs x1 S1 q1 xs rxs => ?_⟩
  cases e : rng1 vs with
  | none => rw [e] at q1; exact q1.elim
  | some l =>
    rw [e] at q1
    obtain ⟨j, e1, h1, h2, rfl⟩ := rng1_inv rxs e
    exact ⟨j, e1, h1, h2, lc_w ho itr_w.1 itr_w.2 S1 (sl.ext x1) q1⟩
theorem re_lcR2 {a c : Expr} {ma : AM} {pr pos' : Pos} (hc : X.calm = true) (hN : X.N.Nodup) (hgl : Gl X "range") (hm : X.mg "range" = none) (ha : RA X E [a, c] ma) (ok : BlkOk X.N X.env.scope scope own) (ho : ∀ i ∈ p.slots, i ∈ own.map (·.2))
    (hg : ∀ s H C cl fp, RG (Blk X scope s H C cl fp) tg p) (ht : ∀ s H C cl fp, PTs (Blk X scope s H C cl fp) ifs (tT X.K E tt)) (he : ∀ s H C cl fp, RE (Blk X scope s H C cl fp) E elt te)
    (hs1 : starEach [a, c] X.env = [(false, eval a X.env), (false, eval c X.env)] := by rfl) (hs2 : starEach [c] X.env = [(false, eval c X.env)] := by rfl) (hs : ∀ x, foldedSetIterable (.Call (.Name "range" pr) [a, c] [] pos') X.env x = pure x := by intro _; rfl) :
    RE X E (.ListComp elt [⟨tg, .Call (.Name "range" pr) [a, c] [] pos', ifs, 0⟩] scope pos) (eLcR rng2 ma p tt te (own.map (·.2))) := by
  refine pe_weak (pe_lc (g := tG X.K p) (tt := tT X.K E tt) (te := tE X.K E te) hc hN (pi_range2 hgl hm ha hs1 hs2) ok hg ht he hs) fun σ H Q ⟨ι, G, ρ, S, sl, q⟩ => ⟨ι, G, ρ, S, sl, (Post.bind q).mono fun ι1 G1 H1 vs x1 S1 q1 xs rxs => ?_⟩
  cases e : rng2 vs with
  | none => rw [e] at q1; exact q1.elim
  | some l =>
    rw [e] at q1
    obtain ⟨i, j, e1, h1, rfl⟩ := rng2_inv rxs e
    exact ⟨i, j, e1, h1, lc_w ho itr_w.1 itr_w.2 S1 (sl.ext x1) q1⟩
/-- name = [..] on one line -/
theorem rs_setLc {i : Nat} {y : Str} {py spos : Pos} {wi : TI} {m : EM} (hc : X.calm = true) (hN : X.N.Nodup) (hy : X.N[i]? = some y) (hyl : X.env.scope.names.lookup y = some .local)
    (hsw : swapsWith (.ListComp elt [⟨tg, iter, ifs, 0⟩] scope pos) (some (.Name y py)) spos.line X.env = pure true) (hi : PI X tg iter wi) (ok : BlkOk X.N X.env.scope scope own)
    (hg : ∀ s H C cl fp, RG (Blk X scope s H C cl fp) tg p) (ht : ∀ s H C cl fp, PTs (Blk X scope s H C cl fp) ifs (tT X.K E tt)) (he : ∀ s H C cl fp, RE (Blk X scope s H C cl fp) E elt te)
    (w : ∀ σ H Q, tE X.K E m σ H Q → tLc wi (tG X.K p) (tT X.K E tt) (tE X.K E te) (own.map (·.2)) σ H Q) (hs : ∀ x, foldedSetIterable iter X.env x = pure x := by intro _; rfl) :
    RS X E (.Assign [.Name y py] (.ListComp elt [⟨tg, iter, ifs, 0⟩] scope pos) spos) (sSet i m) :=
  ps_weak (ps_setLc (g := tG X.K p) (tt := tT X.K E tt) (te := tE X.K E te) hc hN hy hyl hsw hi ok hg ht he hs) fun D σ H ⟨ι, G, ρ, S, sl, q⟩ => w σ H _ (run1 S sl (q.ofRes.mono fun ι1 G1 H1 v x1 S1 p1 x rx => p1 ι1 H1 (σ.set i (some x)) .refl S1 ((sl.ext x1).set rx i)))
end
end R1

/-! R1fz: comprehensions whose list is never changed. -/
namespace R1
open PySem PySem.Spec PyProof.Rows L2
/-- one turn; go on with k -/
def lcFT (p : Pt) (tt : TM) (te : EM) (ρw : Env1) (v : Val) (k : Store → Res (List Val)) (G : Store) : Res (List Val) := match ptSet G p v ρw with
  | none => .bad
  | some ρ2 => (tt ρ2 G).bind fun b G1 => if b = true then (te ρ2 G1).bind fun w G2 => (k G2).bind fun ws G3 => .ok (w :: ws) G3 else k G1
def lcF (p : Pt) (tt : TM) (te : EM) (ρw : Env1) : List Val → Store → Res (List Val)
  | [], G => .ok [] G
  | v :: r, G => lcFT p tt te ρw v (lcF p tt te ρw r) G
def lcFob (p : Pt) (tt : TM) (te : EM) (ρw : Env1) (i : Nat) : List Val → Nat → Store → Res (List Val)
  | [], k, G => (match G[i]? with
    | some (.lst l) => if l.length ≤ k then .ok [] G else .bad
    | _ => .bad)
  | _ :: r, k, G => (match G[i]? with
    | some (.lst l) => (match l[k]? with
      | some v => lcFT p tt te ρw v (lcFob p tt te ρw i r (k + 1)) G
      | none => .bad)
    | _ => .bad)
def froR (z : Bool) (r : Res (List Val)) : Res Val := r.bind fun ws G => mkL z ws G
/-- [te for p in m if tt]: m a list, a tuple -/
def eLcF (z : Bool) (m : EM) (p : Pt) (tt : TM) (te : EM) (own : List Nat) : EM := fun ρ G => (m ρ G).bind fun v G1 => match v with
  | .tup l => if l.length ≤ sizeLine then froR z (lcF p tt te (wipe1 ρ own) l G1) else .bad
  | .fro l => if l.length ≤ sizeLine then froR z (lcF p tt te (wipe1 ρ own) l G1) else .bad
  | .obj i => (match G1[i]? with
    | some (.lst l) => if l.length ≤ sizeLine then froR z (lcFob p tt te (wipe1 ρ own) i l 0 G1) else .bad
    | _ => .bad)
  | _ => .bad
def eLcFR (z : Bool) (rng : List Val → Option (List Val)) (m : AM) (p : Pt) (tt : TM) (te : EM) (own : List Nat) : EM := fun ρ G => (m ρ G).bind fun vs G1 => match rng vs with
  | some l => if l.length ≤ sizeLine then froR z (lcF p tt te (wipe1 ρ own) l G1) else .bad
  | none => .bad
section
variable {K : PySem.W.Frag} {E : XK} {ι ι' ι2 : Vw} {n n' n2 : Nat} {H H' H2 : Hp} {α β : Type}
theorem Post.bind0 {r : Res α} {f : α → Store → Res β} {k : Vw → Store → Hp → β → Prop} (x : Ext K ι n H ι' n' H') (h : Post K E ι n H (r.bind f) k) : Post K E ι' n' H' r fun ι2 G2 H2 v => Ext K ι n H ι2 G2.length H2 ∧ Post K E ι n H (f v G2) k := by
  cases r with
  | ok v G' => exact fun ι2 H2 e s => ⟨x.trans e, h⟩
  | exc c G' => exact fun ι2 H2 e s => h ι2 H2 (x.trans e) s
  | bad => exact h
/-- the address D is held aside -/
def Vw.add (ι : Vw) (D : Addr) : Vw := ⟨ι.f, fun a => ι.M a ∨ a = D⟩
def Vw.sub (ι : Vw) (D : Addr) : Vw := ⟨ι.f, fun a => ι.M a ∧ a ≠ D⟩
theorem Ext.add {D : Addr} {u : HO} (hD : H D = none) : Ext K ι n H (ι.add D) n (L2.upd H D u) :=
  ⟨Nat.le_refl _, fun _ _ => rfl, fun _ _ h => SqT.updT (ι := ι) (n := n) (.fresh hD) h, fun a xs h => by
    have ne := ne_of_none h.1 hD
    exact ⟨by rw [upd_ne ne]; exact h.1, fun m => m.elim h.2 ne⟩, fun a xs h => by
    obtain ⟨h | ⟨z, h⟩, hm⟩ := h
    · have ne := ne_of_none h hD
      exact ⟨.inl (by rw [upd_ne ne]; exact h), fun m => m.elim hm ne⟩
    · have ne := ne_of_none h hD
      exact ⟨.inr ⟨z, by rw [upd_ne ne]; exact h⟩, fun m => m.elim hm ne⟩, frz_upd (ι := ι) (n := n) (.fresh hD), fun a u h1 h2 h3 => by
    have ne := ne_of_none h3 hD
    exact ⟨by rw [upd_ne ne]; exact h3, .inl h1, h2⟩⟩
theorem Sim.rng {G : Store} {D : Addr} (S : Sim K ι G H) (hD : H D = none) : ∀ i, i < G.length → ι i ≠ D := fun i hi e => by
  obtain ⟨v, h, _⟩ := (S.obj i _ (List.getElem?_eq_getElem hi)).there
  rw [e, hD] at h
  cases h
theorem Sim.add {G : Store} {D : Addr} {u : HO} (S : Sim K ι G H) (hD : H D = none) : Sim K (ι.add D) G (L2.upd H D u) :=
  ⟨S.inj, fun i hi => .inl (S.mu i hi), fun a m => by
    by_cases e : a = D
    · subst e
      exact ⟨u, upd_same⟩
    · rw [upd_ne e]
      exact S.dom a (m.resolve_right e), fun i o e => (S.obj i o e).ext (Ext.add hD) fun v hv => by rw [upd_ne (ne_of_none hv hD)]; exact hv⟩
/-- what lies at D, held aside, is changed -/
theorem Ext.updR {D : Addr} {w : HO} {o : HO} (x : Ext K ι n H ι' n' H') (hD : H D = none) (h : H' D = some w) (hw : Mutl w) (m : ι'.M D) : Ext K ι n H ι' n' (L2.upd H' D o) :=
  ⟨x.le, x.same, fun a ys q => by
    have q2 := x.tup a ys q
    rcases q2 with (q2 | ⟨z, q2⟩) | q2
    · exact .inl (.inl (by rw [upd_ne fun e => by rw [e, h] at q2; cases q2; exact hw]; exact q2))
    · exact .inl (.inr ⟨z, by rw [upd_ne fun e => by rw [e, h] at q2; cases q2; exact hw]; exact q2⟩)
    · exact .inr q2, fun a ys q => by
    have q2 := x.fro a ys q
    exact ⟨by rw [upd_ne fun e => q2.2 (by rw [e]; exact m)]; exact q2.1, q2.2⟩, fun a ys q => by
    have q2 := x.frd a ys q
    have ne : a ≠ D := fun e => q2.2 (by rw [e]; exact m)
    obtain ⟨q3 | ⟨z, q3⟩, q4⟩ := q2
    · exact ⟨.inl (by rw [upd_ne ne]; exact q3), q4⟩
    · exact ⟨.inr ⟨z, by rw [upd_ne ne]; exact q3⟩, q4⟩, fun a z u q => by
    have q2 := x.frz a z u q
    rw [upd_ne fun e => by rw [e, h] at q2; cases q2; exact hw]
    exact q2, fun a u h1 h2 h3 => by
    obtain ⟨e1, e2, e3⟩ := x.res a u h1 h2 h3
    exact ⟨by rw [upd_ne (ne_of_none h3 hD)]; exact e1, e2, e3⟩⟩
theorem updR0 {D : Addr} {w : HO} {o : HO} (h : H D = some w) (hw : Mutl w) (m : ι.M D) : Ext0 K ι n H ι n (L2.upd H D o) :=
  ⟨Nat.le_refl _, fun _ _ => rfl, fun a ys q2 => by
    rcases q2 with (q2 | ⟨z, q2⟩) | q2
    · exact .inl (.inl (by rw [upd_ne fun e => by rw [e, h] at q2; cases q2; exact hw]; exact q2))
    · exact .inl (.inr ⟨z, by rw [upd_ne fun e => by rw [e, h] at q2; cases q2; exact hw]; exact q2⟩)
    · exact .inr q2, fun a ys q2 => ⟨by rw [upd_ne fun e => q2.2 (by rw [e]; exact m)]; exact q2.1, q2.2⟩, fun a ys q2 => by
    have ne : a ≠ D := fun e => q2.2 (by rw [e]; exact m)
    obtain ⟨q3 | ⟨z, q3⟩, q4⟩ := q2
    · exact ⟨.inl (by rw [upd_ne ne]; exact q3), q4⟩
    · exact ⟨.inr ⟨z, by rw [upd_ne ne]; exact q3⟩, q4⟩, fun a ys q2 => by
    rcases q2 with ⟨z, q2⟩ | q2
    · exact .inl ⟨z, by rw [upd_ne fun e => by rw [e, h] at q2; cases q2; exact hw]; exact q2⟩
    · exact .inr q2⟩
theorem Sim.updR {G : Store} {D : Addr} {w : HO} {o : HO} (S : Sim K ι G H) (h : H D = some w) (hw : Mutl w) (m : ι.M D) (r : ∀ i, i < G.length → ι i ≠ D) : Sim K ι G (L2.upd H D o) :=
  ⟨S.inj, S.mu, dom_upd S.dom, fun i ob e => (S.obj i ob e).ext0 (updR0 h hw m) fun v hv => by rw [upd_ne (r i (List.getElem?_eq_some_iff.mp e).1)]; exact hv⟩
/-- D is let go -/
theorem sub0 {D : Addr} (r : ∀ i, i < n → ι i ≠ D) : Ext0 K ι n H (ι.sub D) n H :=
  ⟨Nat.le_refl _, fun _ _ => rfl, fun _ _ h => h, fun _ _ h => ⟨h.1, fun m => h.2 m.1⟩, fun _ _ h => ⟨h.1, fun m => h.2 m.1⟩, fun _ _ h => h⟩
theorem Ext.sub {D : Addr} (x : Ext K ι n H ι' n' H') (hD : H D = none) : Ext K ι n H (ι'.sub D) n' H' :=
  ⟨x.le, x.same, x.tup, fun a xs h => have q := x.fro a xs h; ⟨q.1, fun m => q.2 m.1⟩, fun a xs h => have q := x.frd a xs h; ⟨q.1, fun m => q.2 m.1⟩, x.frz, fun a u h1 h2 h3 => by
    obtain ⟨e1, e2, e3⟩ := x.res a u h1 h2 h3
    exact ⟨e1, ⟨e2, ne_of_none h3 hD⟩, e3⟩⟩
theorem Sim.sub {G : Store} {D : Addr} (S : Sim K ι G H) (r : ∀ i, i < G.length → ι i ≠ D) : Sim K (ι.sub D) G H :=
  ⟨S.inj, fun i hi => ⟨S.mu i hi, r i hi⟩, fun a m => S.dom a m.1, fun i o e => (S.obj i o e).ext0 (sub0 r) fun _ h => h⟩
/-- D becomes an object of the store -/
theorem Ext.own {D : Addr} (x : Ext K ι n H ι' n' H') (hD : H D = none) (m : ι'.M D) : Ext K ι n H (into ι' n' D) (n' + 1) H' :=
  ⟨Nat.le_succ_of_le x.le, fun i h => (into_lt (Nat.lt_of_lt_of_le h x.le)).trans (x.same i h), x.tup, fun a xs h => have q := x.fro a xs h; ⟨q.1, fun k => k.elim q.2 fun e => q.2 (by rw [e]; exact m)⟩, fun a xs h => have q := x.frd a xs h; ⟨q.1, fun k => k.elim q.2 fun e => q.2 (by rw [e]; exact m)⟩, x.frz, fun a u h1 h2 h3 => by
    obtain ⟨e1, e2, e3⟩ := x.res a u h1 h2 h3
    refine ⟨e1, .inl e2, fun i hi e => ?_⟩
    by_cases h : i = n'
    · subst h
      rw [into_eq] at e
      exact ne_of_none h3 hD e.symm
    · have hi' : i < n' := by omega
      rw [into_lt hi'] at e
      exact e3 i hi' e⟩
theorem own0 {D : Addr} (m : ι.M D) : Ext0 K ι n H (into ι n D) (n + 1) H :=
  ⟨Nat.le_succ _, fun _ h => into_lt h, fun _ _ h => h, fun _ _ q => ⟨q.1, fun k => k.elim q.2 fun e => q.2 (by rw [e]; exact m)⟩, fun _ _ q => ⟨q.1, fun k => k.elim q.2 fun e => q.2 (by rw [e]; exact m)⟩, fun _ _ h => h⟩
theorem Sim.own {G : Store} {D : Addr} {o : Ob} (S : Sim K ι G H) (m : ι.M D) (r : ∀ i, i < G.length → ι i ≠ D) (ho : ORep K ι G.length H o D) : Sim K (into ι G.length D) (G ++ [o]) H := by
  refine ⟨fun i j hi hj e => ?_, fun i hi => ?_, fun a k => ?_, fun i o' e => ?_⟩
  · rw [List.length_append, List.length_singleton] at hi hj
    by_cases h1 : i = G.length
    · by_cases h2 : j = G.length
      · rw [h1, h2]
      · have hj' : j < G.length := by omega
        rw [h1, into_eq, into_lt hj'] at e
        exact absurd e.symm (r j hj')
    · have hi' : i < G.length := by omega
      by_cases h2 : j = G.length
      · rw [h2, into_eq, into_lt hi'] at e
        exact absurd e (r i hi')
      · have hj' : j < G.length := by omega
        rw [into_lt hi', into_lt hj'] at e
        exact S.inj i j hi' hj' e
  · rw [List.length_append, List.length_singleton] at hi
    by_cases h1 : i = G.length
    · subst h1
      exact .inr into_eq
    · have hi' : i < G.length := by omega
      rw [into_lt hi']
      exact .inl (S.mu i hi')
  · rcases k with k | k
    · exact S.dom a k
    · rw [k]
      exact S.dom D m
  · rw [List.length_append, List.length_singleton]
    by_cases h1 : i < G.length
    · rw [List.getElem?_append_left h1] at e
      rw [into_lt h1]
      exact (S.obj i o' e).ext0 (own0 m) fun v hv => hv
    · have h2 : i = G.length := by
        have := (List.getElem?_eq_some_iff.mp e).1
        rw [List.length_append, List.length_singleton] at this
        omega
      subst h2
      rw [List.getElem?_append_right (Nat.le_refl _), Nat.sub_self] at e
      cases e
      rw [into_eq]
      exact ho.ext0 (own0 m) fun v hv => hv
end
section
variable {K : PySem.W.Frag} {E : XK} {p : Pt} {tt : TM} {te : EM} {own : List Nat} {z : Bool}
/-- what holds between turns: the object so far lies at D, held aside -/
structure Mid (K : PySem.W.Frag) (ι0 : Vw) (n0 : Nat) (H0 : Hp) (D : Addr) (o : Ob) (ι : Vw) (G : Store) (H : Hp) : Prop where
  x : Ext K ι0 n0 H0 ι G.length H
  S : Sim K ι G H
  at_ : ORep K ι G.length H o D
  m : ι.M D
  r : ∀ i, i < G.length → ι i ≠ D
theorem Mid.next {ι0 ι ι' : Vw} {n0 : Nat} {G G' : Store} {H0 H H' : Hp} {D : Addr} {o : Ob} (h : Mid K ι0 n0 H0 D o ι G H) (x : Ext K ι G.length H ι' G'.length H') (S : Sim K ι' G' H') : Mid K ι0 n0 H0 D o ι' G' H' := by
  obtain ⟨u, h1, _⟩ := h.at_.there
  obtain ⟨e1, e2, e3⟩ := x.res D _ h.m h.r h1
  exact ⟨h.x.trans x, S, h.at_.ext x fun w hw => (x.res D w h.m h.r hw).1, e2, e3⟩
theorem Mid.push {ι0 ι : Vw} {n0 : Nat} {G : Store} {H0 H : Hp} {D : Addr} {acc : List Val} {v : Val} {y : V} (hD : H0 D = none) (h : Mid K ι0 n0 H0 D (.lst acc) ι G H) (r : Rep K ι G.length H v y) :
    ∃ xs, H D = some (.lst xs) ∧ xs.length = acc.length ∧ Mid K ι0 n0 H0 D (.lst (acc ++ [v])) ι G (L2.upd H D (.lst (xs ++ [y]))) := by
  obtain ⟨xs, h1, h2⟩ := h.at_
  exact ⟨xs, h1, h2.length, h.x.updR hD h1 trivial h.m, h.S.updR h1 trivial h.m h.r, ⟨_, upd_same, (h2.append (Reps.one r)).ext0 (updR0 h1 trivial h.m)⟩, h.m, h.r⟩
/-- the object is told -/
theorem Mid.done {ι0 ι : Vw} {n0 : Nat} {G : Store} {H0 H : Hp} {D : Addr} {o : Ob} {Q : VK} (hD : H0 D = none) (h : Mid K ι0 n0 H0 D o ι G H)
    (q : Post K E ι0 n0 H0 (alloc o G) fun ι' G' H' v => ∀ x, Rep K ι' G'.length H' v x → Q x H') : Q (.ref D) H := by
  have hl : (G ++ [o]).length = G.length + 1 := by rw [List.length_append, List.length_singleton]
  refine q (into ι G.length D) H ?_ (h.S.own h.m h.r h.at_) (.ref D) ⟨by rw [hl]; exact Nat.lt_succ_self _, by rw [into_eq]⟩
  rw [hl]
  exact h.x.own hD h.m
theorem Mid.doneL {ι0 ι : Vw} {n0 : Nat} {G : Store} {H0 H : Hp} {D : Addr} {acc : List Val} {Q : VK} (hD : H0 D = none) (h : Mid K ι0 n0 H0 D (.lst acc) ι G H)
    (q : Post K E ι0 n0 H0 (froR z (.ok acc G)) fun ι' G' H' v => ∀ x, Rep K ι' G'.length H' v x → Q x H') : Q (.ref D) H := by
  cases z with
  | false => exact h.done hD q
  | true =>
    obtain ⟨xs, h1, h2⟩ := h.at_
    exact q (ι.sub D) H (h.x.sub hD) (h.S.sub h.r) (.ref D) ⟨D, xs, rfl, ⟨h1, fun m => m.2 rfl⟩, h2.ext0 (sub0 h.r)⟩
theorem Mid.doneD {ι0 ι : Vw} {n0 : Nat} {G : Store} {H0 H : Hp} {D : Addr} {acc : List (Ky × Val)} {Q : VK} (hD : H0 D = none) (h : Mid K ι0 n0 H0 D (.dic acc) ι G H)
    (q : Post K E ι0 n0 H0 (mkD z acc G) fun ι' G' H' v => ∀ x, Rep K ι' G'.length H' v x → Q x H') : Q (.ref D) H := by
  cases z with
  | false => exact h.done hD q
  | true =>
    obtain ⟨xs, h1, h2⟩ := h.at_
    exact q (ι.sub D) H (h.x.sub hD) (h.S.sub h.r) (.ref D) ⟨D, xs, rfl, ⟨.inl h1, fun m => m.2 rfl⟩, h2.ext0 (sub0 h.r)⟩
theorem Mid.new {ι : Vw} {G : Store} {H : Hp} {D : Addr} {o : Ob} {u : HO} (S : Sim K ι G H) (hD : H D = none) (ho : ORep K (ι.add D) G.length (L2.upd H D u) o D) : Mid K ι G.length H D o (ι.add D) G (L2.upd H D u) := ⟨Ext.add hD, S.add hD, ho, .inr rfl, S.rng hD⟩
/-- what is still to be told, behind what was told -/
def behind (acc : List Val) (r : Res (List Val)) : Res (List Val) := r.bind fun ws G => .ok (acc ++ ws) G
theorem behind_nil {r : Res (List Val)} : behind [] r = r := by cases r <;> rfl
theorem behind_cons {acc : List Val} {w : Val} {r : Res (List Val)} : behind acc (r.bind fun ws G => .ok (w :: ws) G) = behind (acc ++ [w]) r := by
  cases r with
  | ok ws G => simp [behind, Res.bind]
  | _ => rfl
theorem lcF_turn {ι0 ι : Vw} {n0 : Nat} {G : Store} {H0 H : Hp} {D : Addr} {acc : List Val} {ρ : Env1} {σ : L2.St} {v : Val} {x : V} {k : Store → Res (List Val)} {R : Vw → Store → Hp → Val → Prop} (hD : H0 D = none) (ho : ∀ i ∈ p.slots, i ∈ own) (M : Mid K ι0 n0 H0 D (.lst acc) ι G H) (rx : Rep K ι G.length H v x) (sl : Slots K ι G.length H (wipe1 ρ own) (L2.wipe σ own))
    (q : Post K E ι0 n0 H0 (froR z (behind acc (lcFT p tt te (wipe1 ρ own) v k G))) R) (hl : acc.length < sizeLine) {N : Hp → Prop}
    (hN : ∀ acc' ι' G' H', acc'.length ≤ acc.length + 1 → Mid K ι0 n0 H0 D (.lst acc') ι' G' H' → Post K E ι0 n0 H0 (froR z (behind acc' (k G'))) R → N H') :
    tG K p x (L2.wipe σ own) H fun σ2 H2 => L2.wipe σ2 own = L2.wipe σ own ∧ tT K E tt σ2 H2 fun b H3 => if b = true then tE K E te σ2 H3 fun y H4 => ∃ acc, H4 D = some (.lst acc) ∧ acc.length < sizeLine ∧ N (L2.upd H4 D (.lst (acc ++ [y]))) else N H3 := by
  unfold lcFT at q
  cases e : ptSet G p v (wipe1 ρ own) with
  | none => rw [e] at q; exact q.elim
  | some ρ2 =>
    rw [e] at q
    dsimp only at q
    refine ⟨ι, G, v, wipe1 ρ own, ρ2, M.S, rx, sl, e, fun σ' l' hl' hj => ⟨wipe_same ho hl' hj, ι, G, ρ2, M.S, l', ?_⟩⟩
    have bb : ∀ {α : Type} (r : Res α) (f : α → Store → Res (List Val)), froR z (behind acc (r.bind f)) = r.bind fun a G => froR z (behind acc (f a G)) := fun r f => by cases r <;> rfl
    rw [bb] at q
    refine (Post.bind0 M.x q).mono fun ι1 G1 H1 b x1 S1 ⟨_, q1⟩ => ?_
    have M1 := M.next x1 S1
    cases b with
    | false => exact hN acc ι1 G1 H1 (Nat.le_succ _) M1 q1
    | true =>
      rw [if_pos rfl] at q1
      rw [if_pos rfl, bb] at *
      refine run2 S1 (l'.ext x1) ((Post.bind0 M1.x q1).mono fun ι2 G2 H2 w x2 S2 ⟨_, q2⟩ y ry => ?_)
      have M2 := M1.next x2 S2
      rw [behind_cons] at q2
      obtain ⟨xs, h1, h2, M3⟩ := M2.push hD ry
      exact ⟨xs, h1, by rw [h2]; exact hl, hN (acc ++ [w]) ι2 G2 _ (by rw [List.length_append]; exact Nat.le_refl _) M3 q2⟩
theorem lcF_w {J : It} {l : List Val} {ι : Vw} {G : Store} {H : Hp} {ρ : Env1} {σ : L2.St} {Q : VK} (ho : ∀ i ∈ p.slots, i ∈ own) (hz : l.length ≤ sizeLine)
    (item : ∀ (j : Nat) (ι' : Vw) (n' : Nat) (H' : Hp) v, Ext K ι G.length H ι' n' H' → l[j]? = some v → J.go j H' ∧ ∀ x H2, J.yld j H' x H2 → H2 = H' ∧ Rep K ι' n' H' v x)
    (stop : ∀ (ι' : Vw) (n' : Nat) (H' : Hp), Ext K ι G.length H ι' n' H' → J.stop l.length H')
    (S : Sim K ι G H) (sl : Slots K ι G.length H ρ σ) (q : Post K E ι G.length H (froR z (lcF p tt te (wipe1 ρ own) l G)) fun ι' G' H' v => ∀ x, Rep K ι' G'.length H' v x → Q x H') :
    ∀ D, H D = none → ∃ W : Nat → Nat → Hp → Prop, (∃ m, W 0 m (L2.upd H D (.lst []))) ∧ ∀ i m H, W i m H →
      (J.stop i H ∧ Q (.ref D) H) ∨ (J.go i H ∧ ∃ Nx : Hp → Prop, (∀ H', Nx H' → ∃ m', m' < m ∧ W (i + 1) m' H') ∧ ∀ x H', J.yld i H x H' → tG K p x (L2.wipe σ own) H' fun σ2 H2 => L2.wipe σ2 own = L2.wipe σ own ∧ tT K E tt σ2 H2 fun b H3 =>
        if b = true then tE K E te σ2 H3 fun y H4 => ∃ acc, H4 D = some (.lst acc) ∧ acc.length < sizeLine ∧ Nx (L2.upd H4 D (.lst (acc ++ [y]))) else Nx H3) := fun D hD => by
  rw [← behind_nil (r := lcF p tt te (wipe1 ρ own) l G)] at q
  refine ⟨fun i m H' => ∃ acc ι' G', Mid K ι G.length H D (.lst acc) ι' G' H' ∧ acc.length ≤ i ∧ i + m = l.length ∧
    Post K E ι G.length H (froR z (behind acc (lcF p tt te (wipe1 ρ own) (l.drop i) G'))) (fun ι' G' H' v => ∀ x, Rep K ι' G'.length H' v x → Q x H'), ⟨l.length, [], ι.add D, G, Mid.new S hD ⟨[], upd_same, rfl⟩, Nat.le_refl _, Nat.zero_add _, q⟩, ?_⟩
  rintro i m H' ⟨acc, ι', G', M, ha, hm, q'⟩
  cases m with
  | zero =>
    have hi : i = l.length := by omega
    subst hi
    rw [List.drop_length] at q'
    refine .inl ⟨stop ι' G'.length H' M.x, M.doneL hD (E := E) (z := z) ?_⟩
    have e : behind acc (lcF p tt te (wipe1 ρ own) [] G') = .ok acc G' := by
      show Res.ok (acc ++ []) G' = _
      rw [List.append_nil]
    rw [e] at q'
    exact q'
  | succ m =>
    have hi : i < l.length := by omega
    obtain ⟨v, hv⟩ : ∃ v, l[i]? = some v := ⟨l[i], List.getElem?_eq_getElem hi⟩
    obtain ⟨go, yld⟩ := item i ι' G'.length H' v M.x hv
    have ed : l.drop i = v :: l.drop (i + 1) := by
      rw [List.drop_eq_getElem_cons hi]
      rw [List.getElem?_eq_getElem hi] at hv
      rw [Option.some.inj hv]
    rw [ed] at q'
    refine .inr ⟨go, fun H2 => ∃ acc ι2 G2, Mid K ι G.length H D (.lst acc) ι2 G2 H2 ∧ acc.length ≤ i + 1 ∧ (i + 1) + m = l.length ∧
      Post K E ι G.length H (froR z (behind acc (lcF p tt te (wipe1 ρ own) (l.drop (i + 1)) G2))) (fun ι' G' H' v => ∀ x, Rep K ι' G'.length H' v x → Q x H'), fun H2 h => ⟨m, Nat.lt_succ_self _, h⟩, fun x H2 hy => ?_⟩
    obtain ⟨rfl, rx⟩ := yld x H2 hy
    exact lcF_turn (k := lcF p tt te (wipe1 ρ own) (l.drop (i + 1))) hD ho M rx ((sl.wipe own).ext M.x) q' (by omega) fun acc' ι2 G2 H2 h1 M2 q2 => ⟨acc', ι2, G2, M2, by omega, by omega, q2⟩
theorem lcFob_w {l : List Val} {i : Nat} {ι : Vw} {G : Store} {H : Hp} {ρ : Env1} {σ : L2.St} {Q : VK} (ho : ∀ i ∈ p.slots, i ∈ own) (hz : l.length ≤ sizeLine) (hi : i < G.length)
    (S : Sim K ι G H) (sl : Slots K ι G.length H ρ σ) (q : Post K E ι G.length H (froR z (lcFob p tt te (wipe1 ρ own) i l 0 G)) fun ι' G' H' v => ∀ x, Rep K ι' G'.length H' v x → Q x H') :
    ∀ D, H D = none → ∃ W : Nat → Nat → Hp → Prop, (∃ m, W 0 m (L2.upd H D (.lst []))) ∧ ∀ j m H, W j m H →
      ((Itl K (ι i)).stop j H ∧ Q (.ref D) H) ∨ ((Itl K (ι i)).go j H ∧ ∃ Nx : Hp → Prop, (∀ H', Nx H' → ∃ m', m' < m ∧ W (j + 1) m' H') ∧ ∀ x H', (Itl K (ι i)).yld j H x H' → tG K p x (L2.wipe σ own) H' fun σ2 H2 => L2.wipe σ2 own = L2.wipe σ own ∧ tT K E tt σ2 H2 fun b H3 =>
        if b = true then tE K E te σ2 H3 fun y H4 => ∃ acc, H4 D = some (.lst acc) ∧ acc.length < sizeLine ∧ Nx (L2.upd H4 D (.lst (acc ++ [y]))) else Nx H3) := fun D hD => by
  rw [← behind_nil (r := lcFob p tt te (wipe1 ρ own) i l 0 G)] at q
  refine ⟨fun j m H' => ∃ acc ι' G' r, Mid K ι G.length H D (.lst acc) ι' G' H' ∧ acc.length ≤ j ∧ r.length = m ∧ j + m = l.length ∧
    Post K E ι G.length H (froR z (behind acc (lcFob p tt te (wipe1 ρ own) i r j G'))) (fun ι' G' H' v => ∀ x, Rep K ι' G'.length H' v x → Q x H'), ⟨l.length, [], ι.add D, G, l, Mid.new S hD ⟨[], upd_same, rfl⟩, Nat.le_refl _, rfl, Nat.zero_add _, q⟩, ?_⟩
  rintro j m H' ⟨acc, ι', G', r, M, ha, hr, hm, q'⟩
  have ea : ι' i = ι i := M.x.same i hi
  cases r with
  | nil =>
    unfold lcFob at q'
    cases e : G'[i]? with
    | none => rw [e] at q'; exact q'.elim
    | some o =>
      rw [e] at q'
      cases o with
      | lst l' =>
        dsimp only at q'
        by_cases hl : l'.length ≤ j
        · rw [if_pos hl] at q'
          obtain ⟨xs, h1, h2⟩ := M.S.lst e
          rw [ea] at h1
          refine .inl ⟨⟨xs, .of h1, by rw [h2.length]; exact hl⟩, M.doneL hD (E := E) (z := z) ?_⟩
          have e : behind acc (.ok [] G') = .ok acc G' := by
            show Res.ok (acc ++ []) G' = _
            rw [List.append_nil]
          rw [e] at q'
          exact q'
        · rw [if_neg hl] at q'
          exact q'.elim
      | _ => exact q'.elim
  | cons w r =>
    unfold lcFob at q'
    cases e : G'[i]? with
    | none => rw [e] at q'; exact q'.elim
    | some o =>
      rw [e] at q'
      cases o with
      | lst l' =>
        dsimp only at q'
        cases e2 : l'[j]? with
        | none => rw [e2] at q'; exact q'.elim
        | some v =>
          rw [e2] at q'
          dsimp only at q'
          obtain ⟨xs, h1, h2⟩ := M.S.lst e
          rw [ea] at h1
          obtain ⟨y, hy, ry⟩ := h2.get e2
          have hm' : r.length + 1 = m := hr
          refine .inr ⟨⟨xs, y, .of h1, hy⟩, fun H2 => ∃ acc ι2 G2, Mid K ι G.length H D (.lst acc) ι2 G2 H2 ∧ acc.length ≤ j + 1 ∧
            Post K E ι G.length H (froR z (behind acc (lcFob p tt te (wipe1 ρ own) i r (j + 1) G2))) (fun ι' G' H' v => ∀ x, Rep K ι' G'.length H' v x → Q x H'), fun H2 ⟨acc, ι2, G2, a1, a2, a3⟩ => ⟨r.length, by omega, acc, ι2, G2, r, a1, a2, rfl, by omega, a3⟩, fun x H2 ⟨eh, ky⟩ => ?_⟩
          subst eh
          have ex := ky xs (.of h1)
          rw [hy] at ex
          cases ex
          exact lcF_turn (k := lcFob p tt te (wipe1 ρ own) i r (j + 1)) hD ho M ry ((sl.wipe own).ext M.x) q' (by omega) fun acc' ι2 G2 H2 h1 M2 q2 => ⟨acc', ι2, G2, M2, by omega, q2⟩
      | _ => exact q'.elim
end
end R1

/-! R1g: op=, places given values, methods of lists and dicts, isinstance, constants of the module. -/
namespace R1
open PySem PySem.Spec PyProof.Rows L2

/-! ### name += e, o.f += e, xs[i] += e (ints) -/
def addI (v w : Val) : Option Val := match v, w with
  | .int i, .int j => some (.int (i + j))
  | _, _ => none
def sAug (i : Nat) (m : EM) : SM := fun ρ G => match ρ[i]? with
  | some (some v) => (m ρ G).toS fun w G1 => (match addI v w with
    | some z => .next (ρ.set i (some z)) G1
    | none => .bad)
  | _ => .bad
/-- o.f += e, o an instance of the class c -/
def sFldAug1 (c p : Nat) (o m : EM) : SM := fun ρ G => (o ρ G).toS fun w G1 => match w with
  | .obj i => (match G1[i]? with
    | some (.ins c' vs) => if c' = c then (match vs[p]? with
      | some v => (m ρ G1).toS fun u G2 => (match addI v u with
        | some z => (match setFld c p w z G2 with
          | some G3 => .next ρ G3
          | none => .bad)
        | none => .bad)
      | none => .bad) else .bad
    | _ => .bad)
  | _ => .bad
theorem addI_inv {v w z : Val} (h : addI v w = some z) : ∃ i j, v = .int i ∧ w = .int j ∧ z = .int (i + j) := by
  unfold addI at h
  cases v with
  | int i =>
    cases w with
    | int j => exact ⟨i, j, rfl, rfl, (Option.some.inj h).symm⟩
    | _ => cases h
  | _ => cases h
section
variable {X : Cx} {E : XK} {e o : Expr} {me mo : EM} {pos pos' tpos : Pos}
theorem rs_aug {i : Nat} {x : Str} (hN : X.N.Nodup) (hi : X.N[i]? = some x) (hx : Loc X.env.scope x) (he : RE X E e me) (hf : X.fn x = true ∨ X.env.scope.names.lookup x = some .local := by first | exact .inl rfl | exact .inr rfl | assumption) :
    RS X E (.AugAssign (.Name x pos') .Add e pos) (sAug i me) := by
  refine ps_weak (ps_aug hN hi hx he ip_add hf) fun D σ H ⟨ι, G, ρ, S, sl, p⟩ => ?_
  unfold sAug at p
  cases e1 : ρ[i]? with
  | none => rw [e1] at p; exact p.elim
  | some ov =>
    rw [e1] at p
    cases ov with
    | none => exact p.elim
    | some v =>
      obtain ⟨x, hx, rx⟩ := sl.get e1
      have p1 : SPost X.K E ι G.length H ((me ρ G).toS fun w G1 => (match addI v w with | some z => .next (ρ.set i (some z)) G1 | none => .bad)) D := p
      refine ⟨x, hx, run1 S sl (p1.ofRes.mono fun ι1 G1 H1 w x1 S1 p2 y ry => ?_)⟩
      cases e2 : addI v w with
      | none => rw [e2] at p2; exact p2.elim
      | some z =>
        rw [e2] at p2
        obtain ⟨a, b, rfl, rfl, rfl⟩ := addI_inv e2
        exact ⟨a, b, rx, ry, p2 ι1 H1 _ .refl S1 ((sl.ext x1).set (v := .int (a + b)) (x := .int (a + b)) rfl i)⟩
theorem rs_fldaug {c p : Nat} {f : Str} (hf : (cfields c)[p]? = some f) (ho : RE X E o mo) (he : RE X E e me) : RS X E (.AugAssign (.Attribute o f tpos) .Add e pos) (sFldAug1 c p mo me) := by
  refine ps_weak (ps_fldaug ho he in_add) fun D σ H ⟨ι, G, ρ, S, sl, q⟩ => run1 S sl (q.ofRes.mono fun ι1 G1 H1 w x1 S1 q1 x rx => ?_)
  cases w with
  | obj i =>
    cases e1 : G1[i]? with
    | none => simp only [e1] at q1; exact q1.elim
    | some ob =>
      simp only [e1] at q1
      cases ob with
      | ins c' vs =>
        dsimp only at q1
        by_cases hc : c' = c
        · subst hc
          rw [if_pos rfl] at q1
          cases e2 : vs[p]? with
          | none => rw [e2] at q1; exact q1.elim
          | some v =>
            rw [e2] at q1
            dsimp only at q1
            obtain ⟨ck, dx, gs, g1, g2⟩ := S1.ins e1
            obtain ⟨y, ey, ry⟩ := g2.look (fields_ok c').1 hf e2
            refine ⟨ι1 i, _, dx, gs, y, rx.2, g1, ck.cls, ck.fld f (List.mem_of_getElem? hf), ey, run1 S1 (sl.ext x1) (q1.ofRes.mono fun ι2 G2 H2 u x2 S2 q4 z rz => ?_)⟩
            cases e3 : addI v u with
            | none => rw [e3] at q4; exact q4.elim
            | some z' =>
              rw [e3] at q4
              obtain ⟨a, b, rfl, rfl, rfl⟩ := addI_inv e3
              dsimp only at q4
              cases e4 : setFld c' p (.obj i) (.int (a + b)) G2 with
              | none => rw [e4] at q4; exact q4.elim
              | some G3 =>
                rw [e4] at q4
                obtain ⟨a', dx', gs', h1, h2, _, hl, s3, e3'⟩ := setFld_ok (v := .int (a + b)) (y := .int (a + b)) S2 (rx.ext x2) (show Rep X.K ι2 G2.length H2 (.int (a + b)) (.int (a + b)) from rfl) hf e4
                have ea : a' = ι1 i := by
                  have h5 := h1.symm.trans rx.2
                  injection h5
                subst ea
                exact ⟨a, b, ry, rz, dx', gs', h2, hl, q4 ι2 _ σ e3' s3 (sl.ext ((x1.trans x2).trans e3'))⟩
        · rw [if_neg hc] at q1
          exact q1.elim
      | _ => exact q1.elim
  | _ => exact q1.elim
end

/-! ### methods of lists -/
def setLst (v : Val) (f : List Val → Option (List Val)) (G : Store) : Option Store := match v with
  | .obj i => (match G[i]? with
    | some (.lst l) => (f l).map fun l' => G.set i (.lst l')
    | _ => none)
  | _ => none
theorem setLst_ok {K : PySem.W.Frag} {ι : Vw} {G G' : Store} {H : Hp} {v : Val} {x : V} {f : List Val → Option (List Val)} (S : Sim K ι G H) (rx : Rep K ι G.length H v x) (h : setLst v f G = some G') :
    ∃ i l l' xs, v = .obj i ∧ G[i]? = some (.lst l) ∧ f l = some l' ∧ x = .ref (ι i) ∧ H (ι i) = some (.lst xs) ∧ Reps K ι G.length H l xs ∧
      ∀ xs', Reps K ι G.length H l' xs' → Sim K ι G' (L2.upd H (ι i) (.lst xs')) ∧ Ext K ι G.length H ι G'.length (L2.upd H (ι i) (.lst xs')) := by
  unfold setLst at h
  cases v with
  | obj i =>
    dsimp only at h
    cases e : G[i]? with
    | none => rw [e] at h; cases h
    | some o =>
      rw [e] at h
      cases o with
      | lst l =>
        dsimp only at h
        cases e2 : f l with
        | none => rw [e2] at h; cases h
        | some l' =>
          rw [e2] at h
          cases h
          obtain ⟨xs, h1, h2⟩ := S.lst e
          refine ⟨i, l, l', xs, rfl, e, e2, rx.2, h1, h2, fun xs' r' => ?_⟩
          exact S.set (u := .lst xs') (o := .lst l') e rfl ⟨xs', upd_same, r'.ext (Ext.updE (S.fr e h1 trivial))⟩
      | _ => cases h
  | _ => cases h
/-- xs.append(e) -/
def eApp (o m : EM) : EM := fun ρ G => (o ρ G).bind fun v G1 => match v with
  | .obj i => (match G1[i]? with
    | some (.lst _) => (m ρ G1).bind fun w G2 => (match setLst v (fun l => if l.length < sizeLine then some (l ++ [w]) else none) G2 with
      | some G3 => .ok .non G3
      | none => .bad)
    | _ => .bad)
  | _ => .bad
/-- xs.pop() -/
def ePop (o : EM) : EM := fun ρ G => (o ρ G).bind fun v G1 => match v with
  | .obj i => (match G1[i]? with
    | some (.lst l) => (match l[l.length - 1]? with
      | some w => .ok w (G1.set i (.lst l.dropLast))
      | none => .bad)
    | _ => .bad)
  | _ => .bad
section
variable {X : Cx} {E : XK} {e o : Expr} {me mo : EM} {apos cpos : Pos}
theorem re_app (ho : RE X E o mo) (he : RE X E e me) (h1 : attributeBase o "append" X.env (eval o X.env) = eval o X.env := by rfl)
    (h2 : (((((backTo cpos (starEach [e] X.env)).all fun x => !x.fst) && (backToKw cpos (keywordEach [] X.env)).all fun x => x.fst.isSome) && decide (([e].length + ([] : List Keyword).length + if ([] : List Keyword).isEmpty = true then 0 else 1) < 30)) = true) := by rfl)
    (h3 : (apos.endLine == cpos.line) = true := by rfl) (h4 : starEach [e] X.env = (false, eval e X.env) :: starEach [] X.env := by rfl) (h5 : ((backTo cpos (starEach [] X.env)).any fun x => x.fst) = false := by rfl) :
    RE X E (.Call (.Attribute o "append" apos) [e] [] cpos) (eApp mo me) := by
  refine pe_weak (pe_bm (name := "append") PySem.F.plainAttrs_list PySem.F.slot_list_append PySem.F.type_list_append mt_append ho (pa_cons he pa_nil h4) h1 h2 h3 h4 h5) fun σ H Q ⟨ι, G, ρ, S, sl, q⟩ => run1 S sl ((Post.bind q).mono fun ι1 G1 H1 v x1 S1 q1 x rx => ?_)
  cases v with
  | obj i =>
    cases e1 : G1[i]? with
    | none => simp only [e1] at q1; exact q1.elim
    | some ob =>
      simp only [e1] at q1
      cases ob with
      | lst l =>
        obtain ⟨xs, g1, g2⟩ := S1.lst e1
        obtain ⟨hlt, rfl⟩ := rx
        have rx : Rep X.K ι1 G1.length H1 (.obj i) (.ref (ι1 i)) := ⟨hlt, rfl⟩
        dsimp only at q1
        refine ⟨.inl ⟨rfl, _, .of g1⟩, run1 S1 (sl.ext x1) ((Post.bind q1).mono fun ι2 G2 H2 w x2 S2 q2 y ry => ?_)⟩
        cases e3 : setLst (.obj i) (fun l => if l.length < sizeLine then some (l ++ [w]) else none) G2 with
        | none => rw [e3] at q2; exact q2.elim
        | some G3 =>
          rw [e3] at q2
          obtain ⟨j, l2, l3, ys, ev, e4, e5, ex, g3, g4, g5⟩ := setLst_ok S2 (rx.ext x2) e3
          by_cases hl : l2.length < sizeLine
          · rw [if_pos hl] at e5
            cases e5
            obtain ⟨s3, x3⟩ := g5 (ys ++ [y]) (g4.append (Reps.one ry))
            exact ⟨ι2 j, ys, y, ex, rfl, g3, by rw [g4.length]; exact hl, q2 ι2 _ x3 s3 _ rfl⟩
          · rw [if_neg hl] at e5
            cases e5
      | _ => exact q1.elim
  | _ => exact q1.elim
theorem re_pop (ho : RE X E o mo) (h1 : attributeBase o "pop" X.env (eval o X.env) = eval o X.env := by rfl) (h3 : (apos.endLine == cpos.line) = true := by rfl) :
    RE X E (.Call (.Attribute o "pop" apos) [] [] cpos) (ePop mo) := by
  refine pe_weak (pe_bm0 (name := "pop") PySem.F.plainAttrs_list PySem.F.slot_list_pop PySem.F.type_list_pop mt_pop ho h1 h3) fun σ H Q ⟨ι, G, ρ, S, sl, q⟩ => run1 S sl ((Post.bind q).mono fun ι1 G1 H1 v x1 S1 q1 x rx => ?_)
  cases v with
  | obj i =>
    cases e1 : G1[i]? with
    | none => simp only [e1] at q1; exact q1.elim
    | some ob =>
      simp only [e1] at q1
      cases ob with
      | lst l =>
        obtain ⟨xs, g1, g2⟩ := S1.lst e1
        dsimp only at q1
        cases e2 : l[l.length - 1]? with
        | none => rw [e2] at q1; exact q1.elim
        | some w =>
          rw [e2] at q1
          obtain ⟨y, ey, ry⟩ := g2.get e2
          obtain ⟨s3, x3⟩ := S1.set (u := .lst xs.dropLast) (o := .lst l.dropLast) e1 rfl ⟨_, upd_same, g2.dropLast.ext (Ext.updE (S1.fr e1 g1 trivial))⟩
          rw [← g2.length] at ey
          obtain ⟨hlt, rfl⟩ := rx
          exact ⟨.inl ⟨rfl, _, .of g1⟩, ι1 i, xs, y, rfl, rfl, g1, ey, q1 ι1 _ x3 s3 y (ry.ext x3)⟩
      | _ => exact q1.elim
  | _ => exact q1.elim
end

/-! ### isinstance with a built-in class -/
def tyN (G : Store) : Val → Option String
  | .non => some "NoneType"
  | .bl _ => some "bool"
  | .int _ => some "int"
  | .str _ => some "str"
  | .tup _ => some "tuple"
  | .fro _ => some "list"
  | .scr _ => none
  | .frd _ => none
  | .obj i => match G[i]? with
    | some (.lst _) => some "list"
    | some (.dic _) => some "dict"
    | _ => none
/-- T one of the names int, bool, str, tuple, list -/
def isTy (T n : String) : Bool := n == T || (n == "bool" && T == "int")
def eIsi (T : String) (m : EM) : EM := fun ρ G => (m ρ G).bind fun v G1 => match tyN G1 v with
  | some n => .ok (.bl (isTy T n)) G1
  | none => .bad
def tyNames : List String := ["int", "bool", "str", "tuple", "list"]
theorem kit_all : ∀ T ∈ tyNames, ∀ n ∈ ["NoneType", "bool", "int", "str", "tuple", "list", "dict"], kitB n T = some (isTy T n) := by decide +kernel
theorem tyN_mem {G : Store} {v : Val} {n : String} (h : tyN G v = some n) : n ∈ ["NoneType", "bool", "int", "str", "tuple", "list", "dict"] := by
  unfold tyN at h
  cases v with
  | obj i =>
    dsimp only at h
    cases e : G[i]? with
    | none => rw [e] at h; cases h
    | some o => rw [e] at h; cases o <;> (cases h <;> simp)
  | scr l => cases h
  | frd l => cases h
  | _ => cases h; simp
theorem ty_at {K : PySem.W.Frag} {ι : Vw} {G : Store} {H : Hp} {v : Val} {x : V} {n : String} (S : Sim K ι G H) (r : Rep K ι G.length H v x) (h : tyN G v = some n) : TyX K H x (.type n) := by
  cases v with
  | non => cases h; rw [show x = .non from r]; exact .base .non
  | bl b => cases h; rw [show x = .bl b from r]; exact .base (.bl b)
  | int i => cases h; rw [show x = .int i from r]; exact .base (.int i)
  | str k => cases h; rw [show x = .str (nm k) from r]; exact .base (.str _)
  | tup l =>
    cases h
    obtain ⟨a, xs, e, h1, h2⟩ := r
    rw [e]
    rcases h1 with (h1 | ⟨o, h1⟩) | ⟨o, its, n, h1, h3, _⟩
    · exact .base (.tup h1)
    · exact .fTuple h1
    · exact .kTuple h1 h3
  | fro l =>
    cases h
    obtain ⟨a, xs, e, h1, h2⟩ := r
    rw [e]
    exact .base (.lst h1.1)
  | scr l => cases h
  | frd l => cases h
  | obj i =>
    unfold tyN at h
    dsimp only at h
    rw [r.2]
    cases e : G[i]? with
    | none => rw [e] at h; cases h
    | some o =>
      rw [e] at h
      cases o with
      | lst l =>
        cases h
        obtain ⟨xs, h1, _⟩ := S.lst e
        exact .base (.lst h1)
      | dic l =>
        cases h
        obtain ⟨xs, h1, _⟩ := S.dic e
        exact .base (.dK h1)
      | _ => cases h
section
variable {X : Cx} {E : XK} {e : Expr} {me : EM} {p p2 pos : Pos}
theorem re_isi {T : String} {x : Str} (hT : T ∈ tyNames) (hgi : Gl X "isinstance") (hmi : X.mg "isinstance" = none) (hty : PE X (.Name x p2) (fun σ H Q => Q (.ty T) H)) (he : RE X E e me)
    (h1 : starEach [e, .Name x p2] X.env = (false, eval e X.env) :: starEach [.Name x p2] X.env := by rfl) (h2 : starEach [.Name x p2] X.env = (false, eval (.Name x p2) X.env) :: starEach [] X.env := by rfl) (hpl : (backTo pos (starEach [.Name x p2] X.env)).any (·.1) = false := by rfl) :
    RE X E (.Call (.Name "isinstance" p) [e, .Name x p2] [] pos) (eIsi T me) := by
  refine pe_weak (pe_callB call_isi hgi hmi (by decide +kernel) (pa_cons he (pa_cons hty pa_nil h2) h1) (by decide) (by decide) h1 hpl) fun σ H Q ⟨ι, G, ρ, S, sl, q⟩ => run1 S sl ((Post.bind q).mono fun ι1 G1 H1 v x1 S1 q1 x rx => ?_)
  cases e1 : tyN G1 v with
  | none => rw [e1] at q1; exact q1.elim
  | some n =>
    rw [e1] at q1
    exact ⟨x, .ty T, .type n, .type T, isTy T n, rfl, .ty T, ty_at S1 rx e1, kit_ty (kit_all T hT n (tyN_mem e1)), q1.here S1 _ rfl⟩
end

/-! ### constants of the module -/
section
variable {X : Cx} {E : XK} {x : Str} {p : Pos}
/-- a whole number that the module holds -/
theorem re_gint {i : Int} (hp : PE X (.Name x p) (fun σ H Q => Q (.int i) H)) : RE X E (.Name x p) (eC (.int i)) :=
  pe_weak hp fun σ H Q ⟨ι, G, ρ, S, sl, q⟩ => q.here S _ rfl
end

/-! ### in, not in; sorted, all, any -/
section
variable {X : Cx} {E : XK} {a b : Expr} {ma mb : EM} {pos : Pos}
theorem re_in (hu : X.A.units + 64 < cLine) (ha : RE X E a ma) (hb : RE X E b mb) (hm : behindInMarks .In b = false := by rfl) : RE X E (.Compare a [.In] [b] pos) (eOp (fIn false) ma mb) := re_cmp (op_inP hu) s_in ha hb hm
theorem re_notin (hu : X.A.units + 64 < cLine) (ha : RE X E a ma) (hb : RE X E b mb) (hm : behindInMarks .NotIn b = false := by rfl) : RE X E (.Compare a [.NotIn] [b] pos) (eOp (fIn true) ma mb) := re_cmp (op_notInP hu) s_in ha hb hm
theorem rt_in (hu : X.A.units + 64 < cLine) (ha : RE X E a ma) (hb : RE X E b mb) (hm : behindInMarks .In b = false := by rfl) : RT X E (.Compare a [.In] [b] pos) (eTest (eOp (fIn false) ma mb)) := rt_cmp (op_inP hu) s_in ha hb hm
theorem rt_notin (hu : X.A.units + 64 < cLine) (ha : RE X E a ma) (hb : RE X E b mb) (hm : behindInMarks .NotIn b = false := by rfl) : RT X E (.Compare a [.NotIn] [b] pos) (eTest (eOp (fIn true) ma mb)) := rt_cmp (op_notInP hu) s_in ha hb hm
end
/-- a list's items -/
abbrev itemsL := lstOf
theorem itemsL_at {K : PySem.W.Frag} {ι : Vw} {G : Store} {H : Hp} {u : Val} {y : V} {l : List Val} (S : Sim K ι G H) (r : Rep K ι G.length H u y) (h : itemsL G u = some l) : ∃ a ys, y = .ref a ∧ SqL K H a ys ∧ Reps K ι G.length H l ys := by
  obtain ⟨a, xs, e, h1, h2⟩ := lstOf_at S r h
  exact ⟨a, xs, e, .of h1, h2⟩
/-- one argument, a list -/
theorem one_lst {K : PySem.W.Frag} {E : XK} {ι : Vw} {G : Store} {H : Hp} {vs : List Val} {xs : List V} {β : Type} {g : List Val → Option β} {k : β → Store → Res Val} {f : F1} {Q : VK} (hf : ∀ vs G, f vs G = match vs with | [v] => (match (itemsL G v).bind g with | some l => k l G | none => .bad) | _ => .bad) (S : Sim K ι G H) (rs : Reps K ι G.length H vs xs)
    (p : Post K E ι G.length H (f vs G) (fun ι' G' H' w => ∀ z, Rep K ι' G'.length H' w z → Q z H')) : ∃ a ys l b, xs = [.ref a] ∧ SqL K H a ys ∧ Reps K ι G.length H l ys ∧ g l = some b ∧ Post K E ι G.length H (k b G) (fun ι' G' H' w => ∀ z, Rep K ι' G'.length H' w z → Q z H') := by
  rw [hf] at p
  cases vs with
  | nil => exact p.elim
  | cons v l =>
    cases l with
    | cons _ _ => exact p.elim
    | nil =>
      dsimp only at p
      cases e : itemsL G v with
      | none => rw [e] at p; exact p.elim
      | some l =>
        rw [e] at p
        dsimp only [Option.bind] at p
        cases e2 : g l with
        | none => rw [e2] at p; exact p.elim
        | some b =>
          rw [e2] at p
          obtain ⟨x, rfl, rx⟩ := reps1 rs
          obtain ⟨a, ys, ex, h1, h2⟩ := itemsL_at S rx e
          exact ⟨a, ys, l, b, by rw [ex], h1, h2, e2, p⟩
def bSortL : F1 := fun vs G => match vs with
  | [v] => (match (itemsL G v).bind asInts with
    | some l => .ok (.fro ((sortI l).map .int)) G
    | none => .bad)
  | _ => .bad
section
variable {K : PySem.W.Frag} {E : XK}
theorem s_sortL : CallS K E (rSortedI K) bSortL := fun ι G H vs xs Q S rs p => by
  obtain ⟨a, ys, l, ns, e, h1, h2, h3, p2⟩ := one_lst (g := asInts) (k := fun l G => .ok (.fro ((sortI l).map .int)) G) (f := bSortL) (fun vs G => by
    unfold bSortL
    rcases vs with _ | ⟨v, _ | ⟨w, l⟩⟩
    · rfl
    · dsimp only
      cases (itemsL G v).bind asInts <;> rfl
    · rfl) S rs p
  have ey := reps_ints h3 h2
  subst ey
  refine ⟨a, ns, e, h1, fun ns' q hp hs hq => ?_⟩
  rw [sortI_uniq hp hs]
  exact post_fro S (ints_reps _) p2 q hq
end
end R1

/-! R1t: a def that leaves the store as it was: what it made is dropped, the list that it tells is never changed. -/
namespace R1
open PySem PySem.Spec PyProof.Rows L2
mutual
/-- a value that speaks of the first n objects alone -/
def clo (n : Nat) : Val → Bool
  | .non => true
  | .bl _ => true
  | .int _ => true
  | .str _ => true
  | .tup l => cloL n l
  | .fro l => cloL n l
  | .scr l => cloL n l
  | .frd l => cloD n l
  | .obj i => decide (i < n)
def cloL (n : Nat) : List Val → Bool
  | [] => true
  | v :: l => clo n v && cloL n l
def cloD (n : Nat) : List (Ky × Val) → Bool
  | [] => true
  | (_, v) :: l => clo n v && cloD n l
end
/-- what is told: new lists and dicts are never changed from now on -/
def frz1 (n : Nat) (G : Store) (v : Val) : Option Val := match v with
  | .obj i => if i < n then some v else (match G[i]? with
    | some (.lst l) => if cloL n l = true then some (.fro l) else none
    | some (.dic l) => if cloD n l = true then some (.frd l) else none
    | _ => none)
  | _ => if clo n v = true then some v else none
def frzV (n : Nat) (G : Store) (v : Val) : Option Val := match v with
  | .tup l => if cloL n l = true then some v else (optAll (frz1 n G) l).map .tup
  | _ => frz1 n G v
open Classical in
noncomputable def trunc (G : Store) (r : Res Val) : Res Val := match r with
  | .ok v G' => if G'.take G.length = G then (match frzV G.length G' v with
    | some w => .ok w G
    | none => .ok v G') else .ok v G'
  | r => r
section
variable {K : PySem.W.Frag} {ι ι' : Vw} {n n' : Nat} {G G' : Store} {H : Hp}
mutual
theorem Rep.clo : ∀ {v : Val} {x : V}, Rep K ι n H v x → clo n v = true
  | .non, _, _ => rfl
  | .bl _, _, _ => rfl
  | .int _, _, _ => rfl
  | .str _, _, _ => rfl
  | .tup l, _, ⟨_, _, _, _, h⟩ => Reps.clo h
  | .fro l, _, ⟨_, _, _, _, h⟩ => Reps.clo h
  | .scr l, _, ⟨_, _, _, _, h⟩ => Reps.clo h
  | .frd l, _, ⟨_, _, _, _, h⟩ => KReps.clo h
  | .obj i, _, ⟨h, _⟩ => decide_eq_true h
theorem Reps.clo : ∀ {l : List Val} {xs : List V}, Reps K ι n H l xs → cloL n l = true
  | [], _, _ => rfl
  | _ :: _, _, ⟨_, _, _, h1, h2⟩ => Bool.and_eq_true_iff.mpr ⟨Rep.clo h1, Reps.clo h2⟩
theorem KReps.clo : ∀ {l : List (Ky × Val)} {xs : List (Key × V)}, KReps K ι n H l xs → cloD n l = true
  | [], _, _ => rfl
  | (_, _) :: _, _, ⟨_, _, _, h1, h2⟩ => Bool.and_eq_true_iff.mpr ⟨Rep.clo h1, KReps.clo h2⟩
end
mutual
theorem Rep.cut (hf : ∀ i, i < n → ι' i = ι i) (hm : ∀ a, ¬ ι.M a → ¬ ι'.M a) : ∀ {v : Val} {x : V}, R1.clo n v = true → Rep K ι n' H v x → Rep K ι' n H v x
  | .non, _, _, h => h
  | .bl _, _, _, h => h
  | .int _, _, _, h => h
  | .str _, _, _, h => h
  | .tup l, _, c, ⟨a, xs, h1, h2, h3⟩ => ⟨a, xs, h1, h2, Reps.cut0 hf hm c h3⟩
  | .fro l, _, c, ⟨a, xs, h1, h2, h3⟩ => ⟨a, xs, h1, ⟨h2.1, hm a h2.2⟩, Reps.cut0 hf hm c h3⟩
  | .scr l, _, c, ⟨a, xs, h1, h2, h3⟩ => ⟨a, xs, h1, h2, Reps.cut0 hf hm c h3⟩
  | .frd l, _, c, ⟨a, xs, h1, h2, h3⟩ => ⟨a, xs, h1, ⟨h2.1, hm a h2.2⟩, KReps.cut0 hf hm c h3⟩
  | .obj i, _, c, ⟨_, h⟩ => ⟨of_decide_eq_true c, by rw [hf i (of_decide_eq_true c)]; exact h⟩
theorem Reps.cut0 (hf : ∀ i, i < n → ι' i = ι i) (hm : ∀ a, ¬ ι.M a → ¬ ι'.M a) : ∀ {l : List Val} {xs : List V}, R1.cloL n l = true → Reps K ι n' H l xs → Reps K ι' n H l xs
  | [], _, _, h => h
  | _ :: _, _, c, ⟨y, ys, e, h1, h2⟩ => ⟨y, ys, e, Rep.cut hf hm (Bool.and_eq_true_iff.mp c).1 h1, Reps.cut0 hf hm (Bool.and_eq_true_iff.mp c).2 h2⟩
theorem KReps.cut0 (hf : ∀ i, i < n → ι' i = ι i) (hm : ∀ a, ¬ ι.M a → ¬ ι'.M a) : ∀ {l : List (Ky × Val)} {xs : List (Key × V)}, R1.cloD n l = true → KReps K ι n' H l xs → KReps K ι' n H l xs
  | [], _, _, h => h
  | (_, _) :: _, _, c, ⟨y, ys, e, h1, h2⟩ => ⟨y, ys, e, Rep.cut hf hm (Bool.and_eq_true_iff.mp c).1 h1, KReps.cut0 hf hm (Bool.and_eq_true_iff.mp c).2 h2⟩
end
theorem FReps.cut0 (hf : ∀ i, i < n → ι' i = ι i) (hm : ∀ a, ¬ ι.M a → ¬ ι'.M a) : ∀ {fs : List Str} {l : List Val} {xs : List (Str × V)}, R1.cloL n l = true → FReps K ι n' H fs l xs → FReps K ι' n H fs l xs
  | [], [], _, _, h => h
  | _ :: _, [], _, _, h => h
  | [], _ :: _, _, _, h => h.elim
  | _ :: _, _ :: _, _, c, ⟨y, ys, e, h1, h2⟩ => ⟨y, ys, e, h1.cut hf hm (Bool.and_eq_true_iff.mp c).1, FReps.cut0 hf hm (Bool.and_eq_true_iff.mp c).2 h2⟩
theorem FReps.clo : ∀ {fs : List Str} {l : List Val} {xs : List (Str × V)}, FReps K ι n H fs l xs → R1.cloL n l = true
  | [], [], _, _ => rfl
  | _ :: _, [], _, _ => rfl
  | [], _ :: _, _, h => h.elim
  | _ :: _, _ :: _, _, ⟨_, _, _, h1, h2⟩ => Bool.and_eq_true_iff.mpr ⟨h1.clo, FReps.clo h2⟩
theorem ORep.cut {o : Ob} {a : Addr} (hf : ∀ i, i < n → ι' i = ι i) (hm : ∀ a, ¬ ι.M a → ¬ ι'.M a) {ι0 : Vw} {H0 : Hp} {a0 : Addr} (h0 : ORep K ι0 n H0 o a0) (h : ORep K ι n' H o a) : ORep K ι' n H o a := by
  cases o with
  | lst l =>
    obtain ⟨_, _, c⟩ := h0
    obtain ⟨xs, h1, h2⟩ := h
    exact ⟨xs, h1, h2.cut0 hf hm c.clo⟩
  | dic l =>
    obtain ⟨_, _, c⟩ := h0
    obtain ⟨xs, h1, h2⟩ := h
    exact ⟨xs, h1, h2.cut0 hf hm c.clo⟩
  | lok l =>
    obtain ⟨_, _, _, c⟩ := h0
    obtain ⟨o, xs, h1, h2⟩ := h
    exact ⟨o, xs, h1, h2.cut0 hf hm c.clo⟩
  | ins c vs =>
    obtain ⟨_, _, _, _, c⟩ := h0
    obtain ⟨k, dx, xs, h1, h2⟩ := h
    exact ⟨k, dx, xs, h1, h2.cut0 hf hm c.clo⟩
/-- the view of the first n objects -/
def Vw.cut (ι : Vw) (n n' : Nat) : Vw := ⟨ι.f, fun a => ι.M a ∧ ∀ i, n ≤ i → i < n' → ι i ≠ a⟩
theorem take_get {α : Type} {l m : List α} {i : Nat} {a : α} (h : l.take m.length = m) (e : m[i]? = some a) : l[i]? = some a := by
  have hi := (List.getElem?_eq_some_iff.mp e).1
  rw [← h, List.getElem?_take, if_pos hi] at e
  exact e
theorem take_len {α : Type} {l m : List α} (h : l.take m.length = m) : m.length ≤ l.length := by
  have := congrArg List.length h
  rw [List.length_take] at this
  omega
theorem Sim.cut {ι0 : Vw} {H0 : Hp} (S0 : Sim K ι0 G H0) (S : Sim K ι G' H) (hg : G'.take G.length = G) : Sim K (ι.cut G.length G'.length) G H := by
  have hl := take_len hg
  refine ⟨fun i j hi hj e => S.inj i j (by omega) (by omega) e, fun i hi => ⟨S.mu i (by omega), fun j h1 h2 e => ?_⟩, fun a m => S.dom a m.1, fun i o e => ?_⟩
  · have := S.inj j i h2 (by omega) e
    omega
  · exact ORep.cut (ι := ι) (ι' := ι.cut G.length G'.length) (n := G.length) (fun _ _ => rfl) (fun a h m => h m.1) (S0.obj i o e) (S.obj i o (take_get hg e))
theorem Ext.cut {ι0 : Vw} {H0 : Hp} (x : Ext K ι0 n H0 ι n' H) : Ext K ι0 n H0 (ι.cut n n') n H :=
  ⟨Nat.le_refl _, x.same, x.tup, fun a xs h => have q := x.fro a xs h; ⟨q.1, fun m => q.2 m.1⟩, fun a xs h => have q := x.frd a xs h; ⟨q.1, fun m => q.2 m.1⟩, x.frz, fun a u h1 h2 h3 => by
    obtain ⟨e1, e2, e3⟩ := x.res a u h1 h2 h3
    exact ⟨e1, ⟨e2, fun i _ hi => e3 i hi⟩, fun i hi => e3 i (Nat.lt_of_lt_of_le hi x.le)⟩⟩
theorem frz1_ok {v w : Val} {x : V} (S : Sim K ι G' H) (h : frz1 n G' v = some w) (r : Rep K ι G'.length H v x) : Rep K (ι.cut n G'.length) n H w x := by
  have hm : ∀ a, ¬ ι.M a → ¬ (ι.cut n G'.length).M a := fun a h m => h m.1
  have key : ∀ u : Val, (if R1.clo n u = true then some u else none) = some w → Rep K ι G'.length H u x → Rep K (ι.cut n G'.length) n H w x := fun u e r => by
    by_cases c : R1.clo n u = true
    · rw [if_pos c] at e
      cases e
      exact Rep.cut (ι := ι) (ι' := ι.cut n G'.length) (fun _ _ => rfl) hm c r
    · rw [if_neg c] at e
      cases e
  unfold frz1 at h
  cases v with
  | obj i =>
    dsimp only at h
    by_cases hi : i < n
    · rw [if_pos hi] at h
      cases h
      exact ⟨hi, r.2⟩
    · rw [if_neg hi] at h
      have nm : ¬ (ι.cut n G'.length).M (ι i) := fun m => m.2 i (Nat.le_of_not_lt hi) r.1 rfl
      cases e : G'[i]? with
      | none => rw [e] at h; cases h
      | some o =>
        rw [e] at h
        cases o with
        | lst l =>
          dsimp only at h
          by_cases c : cloL n l = true
          · rw [if_pos c] at h
            cases h
            obtain ⟨xs, h1, h2⟩ := S.lst e
            exact ⟨ι i, xs, r.2, ⟨h1, nm⟩, Reps.cut0 (ι := ι) (ι' := ι.cut n G'.length) (fun _ _ => rfl) hm c h2⟩
          · rw [if_neg c] at h
            cases h
        | dic l =>
          dsimp only at h
          by_cases c : cloD n l = true
          · rw [if_pos c] at h
            cases h
            obtain ⟨xs, h1, h2⟩ := S.dic e
            exact ⟨ι i, xs, r.2, ⟨.inl h1, nm⟩, KReps.cut0 (ι := ι) (ι' := ι.cut n G'.length) (fun _ _ => rfl) hm c h2⟩
          · rw [if_neg c] at h
            cases h
        | _ => cases h
  | _ => exact key _ h r
theorem frzs_ok (S : Sim K ι G' H) : ∀ {l m : List Val} {xs : List V}, optAll (frz1 n G') l = some m → Reps K ι G'.length H l xs → Reps K (ι.cut n G'.length) n H m xs
  | [], m, xs, h, r => by
    cases h
    exact r
  | v :: l, m, xs, h, ⟨y, ys, e, r1, r2⟩ => by
    obtain ⟨b, s, e1, e2, rfl⟩ := optAll_cons h
    exact ⟨y, ys, e, frz1_ok S e1 r1, frzs_ok S e2 r2⟩
theorem frzV_ok {v w : Val} {x : V} (S : Sim K ι G' H) (h : frzV n G' v = some w) (r : Rep K ι G'.length H v x) : Rep K (ι.cut n G'.length) n H w x := by
  unfold frzV at h
  cases v with
  | tup l =>
    dsimp only at h
    by_cases c : cloL n l = true
    · rw [if_pos c] at h
      cases h
      exact Rep.cut (ι := ι) (ι' := ι.cut n G'.length) (fun _ _ => rfl) (fun a h m => h m.1) (v := .tup l) c r
    · rw [if_neg c] at h
      cases e : optAll (frz1 n G') l with
      | none => rw [e] at h; cases h
      | some m =>
        rw [e] at h
        cases h
        obtain ⟨a, xs, ex, h1, h2⟩ := r
        exact ⟨a, xs, ex, h1, frzs_ok S e h2⟩
  | _ => exact frz1_ok S h r
theorem trunc_post {E : XK} {r : Res Val} {Q : VK} (S : Sim K ι G H) (h : Post K E ι G.length H (trunc G r) fun ι' G' H' v => ∀ x, Rep K ι' G'.length H' v x → Q x H') : Post K E ι G.length H r fun ι' G' H' v => ∀ x, Rep K ι' G'.length H' v x → Q x H' := by
  cases r with
  | exc c G' => exact h
  | bad => exact h
  | ok v G' =>
    unfold trunc at h
    dsimp only at h
    by_cases hg : G'.take G.length = G
    · rw [if_pos hg] at h
      cases e : frzV G.length G' v with
      | none => rw [e] at h; exact h
      | some w =>
        rw [e] at h
        exact fun ι' H' x S' z rz => h (ι'.cut G.length G'.length) H' x.cut (S.cut S' hg) z (frzV_ok S' e rz)
    · rw [if_neg hg] at h
      exact h
end
/-- what m says holds of m', too -/
def Wk (np : Nat) (m m' : F1) : Prop := ∀ (K : PySem.W.Frag) (xs : List V) (H : Hp) (Q : VK) (E : XK), spF K np m xs H Q E → spF K np m' xs H Q E
theorem Wk.refl {np : Nat} {m : F1} : Wk np m m := fun _ _ _ _ _ h => h
noncomputable def runDefT (N np : Nat) (b : SM) : F1 := fun vs G => trunc G (runDef N np b vs G)
theorem runDefT_ar {N np : Nat} {b : SM} : Arity np (runDefT N np b) := fun vs G h => by
  unfold runDefT
  rw [runDef_ar vs G h]
  rfl
theorem Wk.trunc {N np : Nat} {b : SM} : Wk np (runDefT N np b) (runDef N np b) := fun K xs H Q E ⟨ι, G, vs, S, r, hl, p⟩ => ⟨ι, G, vs, S, r, hl, trunc_post S p⟩
section
variable {P : Program} {w : World} {K : PySem.W.Frag} {mg : Str → Option Value} {base : Heap} {CX : CXT} {x qual : Str} {params : Arguments} {body : List Stmt} {scope : Scope} {dvs : List V} {kws : List (Str × V)} {fa : Addr} {fd : FuncData} {N ps : List Str} {k : Nat} {b : SM} {m : F1}
theorem fn_okM (hm : Wk ps.length m (runDef N.length ps.length b)) (F : FunD K x qual params body scope dvs kws fa fd) (S : FnScope N ps scope)
    (hb : ∀ (cdv : Value) (A : Around) (outer : List Env) (s : Shared) (H : Hp) (E : XK), Room k (A.deeper (envOfC qual scope s.heap.objs.size fa cdv)) → RSs (cxOf CX P w K mg base N qual scope fa cdv A outer s H E) E body b) :
    FnOk P w K mg base CX (k + 1) fa fd ps (spF K ps.length m) :=
  F.ok S (fun vs H Q E ⟨ι, G, us, _, r, hl, _⟩ => by rw [r.length]; exact hl) fun cdv A outer s H vs Q E hr h => ⟨_, hb cdv A outer s H E hr, body_w (hm _ _ _ _ _ h)⟩
end
end R1

/-! R1h: what printed proofs name: facts of the top, defs, walks over lists or tuples. -/
namespace R1
open PySem PySem.Spec PyProof.Rows L2

/-! ### one of two ways -/
theorem re_sel {X : Cx} {E : XK} {e : Expr} {m m1 m2 : EM} (h1 : RE X E e m1) (h2 : RE X E e m2) (h : ∀ ρ G, m ρ G = m1 ρ G ∨ m ρ G = m2 ρ G) : RE X E e m := ⟨fun pins s σ H Q I ⟨ι, G, ρ, S, sl, p⟩ => by
  rcases h ρ G with e0 | e0
  · exact h1.run pins s σ H Q I ⟨ι, G, ρ, S, sl, by rw [← e0]; exact p⟩
  · exact h2.run pins s σ H Q I ⟨ι, G, ρ, S, sl, by rw [← e0]; exact p⟩⟩
theorem rt_sel {X : Cx} {E : XK} {e : Expr} {m m1 m2 : TM} (h1 : RT X E e m1) (h2 : RT X E e m2) (h : ∀ ρ G, m ρ G = m1 ρ G ∨ m ρ G = m2 ρ G) : RT X E e m := ⟨fun pins s σ H Q I ⟨ι, G, ρ, S, sl, p⟩ => by
  rcases h ρ G with e0 | e0
  · exact h1.run pins s σ H Q I ⟨ι, G, ρ, S, sl, by rw [← e0]; exact p⟩
  · exact h2.run pins s σ H Q I ⟨ι, G, ρ, S, sl, by rw [← e0]; exact p⟩⟩
theorem rs_sel {X : Cx} {E : XK} {st : Stmt} {m m1 m2 : SM} (h1 : RS X E st m1) (h2 : RS X E st m2) (h : ∀ ρ G, m ρ G = m1 ρ G ∨ m ρ G = m2 ρ G) : RS X E st m := ⟨fun pins s σ H D I ⟨ι, G, ρ, S, sl, p⟩ => by
  rcases h ρ G with e0 | e0
  · exact h1.run pins s σ H D I ⟨ι, G, ρ, S, sl, by rw [← e0]; exact p⟩
  · exact h2.run pins s σ H D I ⟨ι, G, ρ, S, sl, by rw [← e0]; exact p⟩⟩
/-- a walk over a list or a tuple -/
def sForA (m : EM) (p : Pt) (b : SM) : SM := fun ρ G => (m ρ G).toS fun v G1 => match v with
  | .tup l => forIt p b l ρ G1
  | .fro l => forIt p b l ρ G1
  | .obj i => (match G1[i]? with
    | some (.lst l) => forOb p b i l 0 ρ G1
    | _ => .bad)
  | _ => .bad
def eLcA (m : EM) (p : Pt) (tt : TM) (te : EM) (own : List Nat) : EM := fun ρ G => (m ρ G).bind fun v G1 => match v with
  | .tup l => (lcIt p tt te (wipe1 ρ own) G1.length l (G1 ++ [.lst []])).bind fun _ G3 => .ok (.obj G1.length) G3
  | .fro l => (lcIt p tt te (wipe1 ρ own) G1.length l (G1 ++ [.lst []])).bind fun _ G3 => .ok (.obj G1.length) G3
  | .obj i => (match G1[i]? with
    | some (.lst l) => (lcOb p tt te (wipe1 ρ own) G1.length i l 0 (G1 ++ [.lst []])).bind fun _ G3 => .ok (.obj G1.length) G3
    | _ => .bad)
  | _ => .bad
section
variable {X : Cx} {E : XK} {tg iter elt : Expr} {ifs : List Expr} {body : List Stmt} {scope : Scope} {own : List (Str × Nat)} {mi te : EM} {tt : TM} {p : Pt} {b : SM} {pos : Pos}
theorem rs_forA (hp : PassesOwn (model X.prog X.w) X.A X.env X.xe) (hc : X.calm = true) (hi : RE X E iter mi) (hg : RG X tg p) (hb : RSs X E body b) (hs : ∀ x, foldedSetIterable iter X.env x = pure x := by intro _; rfl) :
    RS X E (.For tg iter body [] pos) (sForA mi p b) :=
  rs_sel (rs_forL hp hc hi hg hb hs) (rs_forT hp hc hi hg hb hs) fun ρ G => by
    unfold sForA sForL sForT
    cases mi ρ G with
    | ok v G1 => cases v <;> first | exact .inl rfl | exact .inr rfl
    | _ => exact .inl rfl
theorem lcA_eq (ρ : Env1) (G : Store) (own : List Nat) : eLcA mi p tt te own ρ G = eLcL mi p tt te own ρ G ∨ eLcA mi p tt te own ρ G = eLcT mi p tt te own ρ G := by
  unfold eLcA eLcL eLcT
  cases mi ρ G with
  | ok v G1 => cases v <;> first | exact .inl rfl | exact .inr rfl
  | _ => exact .inl rfl
theorem re_lcA (hc : X.calm = true) (hN : X.N.Nodup) (hi : RE X E iter mi) (ok : BlkOk X.N X.env.scope scope own) (ho : ∀ i ∈ p.slots, i ∈ own.map (·.2))
    (hg : ∀ s H C cl fp, RG (Blk X scope s H C cl fp) tg p) (ht : ∀ s H C cl fp, PTs (Blk X scope s H C cl fp) ifs (tT X.K E tt)) (he : ∀ s H C cl fp, RE (Blk X scope s H C cl fp) E elt te)
    (hs : ∀ x, foldedSetIterable iter X.env x = pure x := by intro _; rfl) : RE X E (.ListComp elt [⟨tg, iter, ifs, 0⟩] scope pos) (eLcA mi p tt te (own.map (·.2))) :=
  re_sel (re_lcL hc hN hi ok ho hg ht he hs) (re_lcT hc hN hi ok ho hg ht he hs) fun ρ G => lcA_eq ρ G _
/-! what a walk asks, for the statement name = [..] -/
theorem lcL_w {K : PySem.W.Frag} {own : List Nat} (ho : ∀ i ∈ p.slots, i ∈ own) : ∀ σ H Q, tE K E (eLcL mi p tt te own) σ H Q → tLc (iList K (tE K E mi)) (tG K p) (tT K E tt) (tE K E te) own σ H Q := fun σ H Q ⟨ι, G, ρ, S, sl, q⟩ => run2 S sl ((Post.bind q).mono fun ι1 G1 H1 v x1 S1 q1 x rx => by
  cases v with
  | fro l =>
    obtain ⟨a, xs, ex, h1, h2⟩ := rx
    exact ⟨a, ex, ⟨xs, h1.l⟩, lc_w ho (itf_w h1 h2).1 (itf_w h1 h2).2 S1 (sl.ext x1) q1⟩
  | obj i =>
    cases e : G1[i]? with
    | none => simp only [e] at q1; exact q1.elim
    | some o =>
      simp only [e] at q1
      cases o with
      | lst l =>
        obtain ⟨xs, h1, h2⟩ := S1.lst e
        exact ⟨ι1 i, rx.2, ⟨xs, .of h1⟩, lcOb_w ho rx.1 S1 (sl.ext x1) q1⟩
      | _ => exact q1.elim
  | _ => exact q1.elim)
theorem lcT_w {K : PySem.W.Frag} {own : List Nat} (ho : ∀ i ∈ p.slots, i ∈ own) : ∀ σ H Q, tE K E (eLcT mi p tt te own) σ H Q → tLc (iTup K (tE K E mi)) (tG K p) (tT K E tt) (tE K E te) own σ H Q := fun σ H Q ⟨ι, G, ρ, S, sl, q⟩ => run2 S sl ((Post.bind q).mono fun ι1 G1 H1 v x1 S1 q1 x rx => by
  cases v with
  | tup l =>
    obtain ⟨a, xs, ex, h1, h2⟩ := rx
    exact ⟨a, ex, ⟨xs, h1⟩, lc_w ho (itt_w h1 h2).1 (itt_w h1 h2).2 S1 (sl.ext x1) q1⟩
  | _ => exact q1.elim)
theorem lcR1_w {K : PySem.W.Frag} {ma : AM} {own : List Nat} (ho : ∀ i ∈ p.slots, i ∈ own) : ∀ σ H Q, tE K E (eLcR rng1 ma p tt te own) σ H Q → tLc (iRng1 (tA K E ma)) (tG K p) (tT K E tt) (tE K E te) own σ H Q := fun σ H Q ⟨ι, G, ρ, S, sl, q⟩ => ⟨ι, G, ρ, S, sl, (Post.bind q).mono fun ι1 G1 H1 vs x1 S1 q1 xs rxs => by
  cases e : rng1 vs with
  | none => rw [e] at q1; exact q1.elim
  | some l =>
    rw [e] at q1
    obtain ⟨j, e1, h1, h2, rfl⟩ := rng1_inv rxs e
    exact ⟨j, e1, h1, h2, lc_w ho itr_w.1 itr_w.2 S1 (sl.ext x1) q1⟩⟩
theorem lcR2_w {K : PySem.W.Frag} {ma : AM} {own : List Nat} (ho : ∀ i ∈ p.slots, i ∈ own) : ∀ σ H Q, tE K E (eLcR rng2 ma p tt te own) σ H Q → tLc (iRng2 (tA K E ma)) (tG K p) (tT K E tt) (tE K E te) own σ H Q := fun σ H Q ⟨ι, G, ρ, S, sl, q⟩ => ⟨ι, G, ρ, S, sl, (Post.bind q).mono fun ι1 G1 H1 vs x1 S1 q1 xs rxs => by
  cases e : rng2 vs with
  | none => rw [e] at q1; exact q1.elim
  | some l =>
    rw [e] at q1
    obtain ⟨i, j, e1, h1, rfl⟩ := rng2_inv rxs e
    exact ⟨i, j, e1, h1, lc_w ho itr_w.1 itr_w.2 S1 (sl.ext x1) q1⟩⟩
theorem rs_setLcA {i : Nat} {y : Str} {py spos : Pos} (hc : X.calm = true) (hN : X.N.Nodup) (hy : X.N[i]? = some y) (hyl : X.env.scope.names.lookup y = some .local)
    (hsw : swapsWith (.ListComp elt [⟨tg, iter, ifs, 0⟩] scope pos) (some (.Name y py)) spos.line X.env = pure true) (hi : RE X E iter mi) (ok : BlkOk X.N X.env.scope scope own) (ho : ∀ i ∈ p.slots, i ∈ own.map (·.2))
    (hg : ∀ s H C cl fp, RG (Blk X scope s H C cl fp) tg p) (ht : ∀ s H C cl fp, PTs (Blk X scope s H C cl fp) ifs (tT X.K E tt)) (he : ∀ s H C cl fp, RE (Blk X scope s H C cl fp) E elt te)
    (hs : ∀ x, foldedSetIterable iter X.env x = pure x := by intro _; rfl) : RS X E (.Assign [.Name y py] (.ListComp elt [⟨tg, iter, ifs, 0⟩] scope pos) spos) (sSet i (eLcA mi p tt te (own.map (·.2)))) :=
  rs_sel (rs_setLc hc hN hy hyl hsw (pi_list hi) ok hg ht he (lcL_w ho) hs) (rs_setLc hc hN hy hyl hsw (pi_tup hi) ok hg ht he (lcT_w ho) hs) fun ρ G => by
    unfold sSet
    rcases lcA_eq (mi := mi) (p := p) (tt := tt) (te := te) ρ G (own.map (·.2)) with e | e
    · exact .inl (by rw [e])
    · exact .inr (by rw [e])
theorem rs_setLcR1 {i : Nat} {y : Str} {a : Expr} {ma : AM} {py spos pr pos' : Pos} (hc : X.calm = true) (hN : X.N.Nodup) (hy : X.N[i]? = some y) (hyl : X.env.scope.names.lookup y = some .local)
    (hsw : swapsWith (.ListComp elt [⟨tg, .Call (.Name "range" pr) [a] [] pos', ifs, 0⟩] scope pos) (some (.Name y py)) spos.line X.env = pure true) (hgl : Gl X "range") (hm : X.mg "range" = none) (ha : RA X E [a] ma) (ok : BlkOk X.N X.env.scope scope own) (ho : ∀ i ∈ p.slots, i ∈ own.map (·.2))
    (hg : ∀ s H C cl fp, RG (Blk X scope s H C cl fp) tg p) (ht : ∀ s H C cl fp, PTs (Blk X scope s H C cl fp) ifs (tT X.K E tt)) (he : ∀ s H C cl fp, RE (Blk X scope s H C cl fp) E elt te)
    (hs1 : starEach [a] X.env = [(false, eval a X.env)] := by rfl) (hs : ∀ x, foldedSetIterable (.Call (.Name "range" pr) [a] [] pos') X.env x = pure x := by intro _; rfl) :
    RS X E (.Assign [.Name y py] (.ListComp elt [⟨tg, .Call (.Name "range" pr) [a] [] pos', ifs, 0⟩] scope pos) spos) (sSet i (eLcR rng1 ma p tt te (own.map (·.2)))) :=
  rs_setLc hc hN hy hyl hsw (pi_range1 hgl hm ha hs1) ok hg ht he (lcR1_w ho) hs
theorem rs_setLcR2 {i : Nat} {y : Str} {a c : Expr} {ma : AM} {py spos pr pos' : Pos} (hc : X.calm = true) (hN : X.N.Nodup) (hy : X.N[i]? = some y) (hyl : X.env.scope.names.lookup y = some .local)
    (hsw : swapsWith (.ListComp elt [⟨tg, .Call (.Name "range" pr) [a, c] [] pos', ifs, 0⟩] scope pos) (some (.Name y py)) spos.line X.env = pure true) (hgl : Gl X "range") (hm : X.mg "range" = none) (ha : RA X E [a, c] ma) (ok : BlkOk X.N X.env.scope scope own) (ho : ∀ i ∈ p.slots, i ∈ own.map (·.2))
    (hg : ∀ s H C cl fp, RG (Blk X scope s H C cl fp) tg p) (ht : ∀ s H C cl fp, PTs (Blk X scope s H C cl fp) ifs (tT X.K E tt)) (he : ∀ s H C cl fp, RE (Blk X scope s H C cl fp) E elt te)
    (hs1 : starEach [a, c] X.env = [(false, eval a X.env), (false, eval c X.env)] := by rfl) (hs2 : starEach [c] X.env = [(false, eval c X.env)] := by rfl) (hs : ∀ x, foldedSetIterable (.Call (.Name "range" pr) [a, c] [] pos') X.env x = pure x := by intro _; rfl) :
    RS X E (.Assign [.Name y py] (.ListComp elt [⟨tg, .Call (.Name "range" pr) [a, c] [] pos', ifs, 0⟩] scope pos) spos) (sSet i (eLcR rng2 ma p tt te (own.map (·.2)))) :=
  rs_setLc hc hN hy hyl hsw (pi_range2 hgl hm ha hs1 hs2) ok hg ht he (lcR2_w ho) hs
end

/-! ### all, any -/
def bAllL : F1 := fun vs G => match vs with
  | [v] => (match (itemsL G v).bind asBls with
    | some l => .ok (.bl (l.all id)) G
    | none => .bad)
  | _ => .bad
def bAnyL : F1 := fun vs G => match vs with
  | [v] => (match (itemsL G v).bind asBls with
    | some l => .ok (.bl (l.any id)) G
    | none => .bad)
  | _ => .bad
section
variable {K : PySem.W.Frag} {E : XK}
theorem s_all : CallS K E (rAll K) bAllL := fun ι G H vs xs Q S rs p => by
  obtain ⟨a, ys, l, ns, e, h1, h2, h3, p2⟩ := one_lst (g := asBls) (k := fun l G => .ok (.bl (l.all id)) G) (f := bAllL) (fun vs G => by
    unfold bAllL
    rcases vs with _ | ⟨v, _ | ⟨w, l⟩⟩
    · rfl
    · dsimp only
      cases (itemsL G v).bind asBls <;> rfl
    · rfl) S rs p
  have ey := reps_bls h3 h2
  subst ey
  exact ⟨a, ns, e, h1, p2.here S _ rfl⟩
theorem s_any : CallS K E (rAny K) bAnyL := fun ι G H vs xs Q S rs p => by
  obtain ⟨a, ys, l, ns, e, h1, h2, h3, p2⟩ := one_lst (g := asBls) (k := fun l G => .ok (.bl (l.any id)) G) (f := bAnyL) (fun vs G => by
    unfold bAnyL
    rcases vs with _ | ⟨v, _ | ⟨w, l⟩⟩
    · rfl
    · dsimp only
      cases (itemsL G v).bind asBls <;> rfl
    · rfl) S rs p
  have ey := reps_bls h3 h2
  subst ey
  exact ⟨a, ns, e, h1, p2.here S _ rfl⟩
end

theorem plOk_by {f : Str} {pl : List (Nat × Nat)} (h : (pl.all fun q => decide ((cfields q.1)[q.2]? = some f)) = true) : PlOk f pl := fun q hq => of_decide_eq_true (List.all_eq_true.mp h q hq)
/-! ### names -/
section
variable {X : Cx} {E : XK} {pos : Pos}
theorem rv (i : Nat) {x : Str} (hN : X.N[i]? = some x := by rfl) (hv : Vis X.env.scope x := by first | exact .inl rfl | exact .inr (.inl rfl) | exact .inr (.inr rfl)) (hd : (x == ("__debug__" : Str)) = false := by decide) (hcd : (x == ("__classdict__" : Str)) = false := by decide) : RE X E (.Name x pos) (eVar i) := re_var hN hv hd hcd
theorem rgn (i : Nat) {x : Str} (hN : X.N.Nodup) (hi : X.N[i]? = some x := by rfl) (hx : L2.Loc X.env.scope x := by first | exact .inl rfl | exact .inr rfl) (hf : X.fn x = true ∨ X.env.scope.names.lookup x = some .local := by first | exact .inl rfl | exact .inr rfl) : RG X (.Name x pos) (.nm i) := rg_name hN hi hx hf
theorem rgc (i : Nat) {l : List Nat} {x : Str} {es : List Expr} (hN : X.N.Nodup) (h2 : RGs X es l) (hi : X.N[i]? = some x := by rfl) (hx : L2.Loc X.env.scope x := by first | exact .inl rfl | exact .inr rfl)
    (hf : X.fn x = true ∨ X.env.scope.names.lookup x = some .local := by first | exact .inl rfl | exact .inr rfl) (hs : assignEach (.Name x pos :: es) X.env = (false, assign (.Name x pos) X.env) :: assignEach es X.env := by rfl) : RGs X (.Name x pos :: es) (i :: l) := rgs_cons hN hi hx h2 hf hs
theorem rst (i : Nat) {x : Str} {e : Expr} {me : EM} {pos' : Pos} (hN : X.N.Nodup) (he : RE X E e me) (hi : X.N[i]? = some x := by rfl) (hx : L2.Loc X.env.scope x := by first | exact .inl rfl | exact .inr rfl) (hs : swapsWith e (some (.Name x pos')) pos.line X.env = pure false := by rfl) (hf : X.fn x = true ∨ X.env.scope.names.lookup x = some .local := by first | exact .inl rfl | exact .inr rfl) :
    RS X E (.Assign [.Name x pos'] e pos) (sSet i me) := rs_set hN hi hx he hs hf
theorem rsaug (i : Nat) {x : Str} {e : Expr} {me : EM} {pos' : Pos} (hN : X.N.Nodup) (he : RE X E e me) (hi : X.N[i]? = some x := by rfl) (hx : L2.Loc X.env.scope x := by first | exact .inl rfl | exact .inr rfl) (hf : X.fn x = true ∨ X.env.scope.names.lookup x = some .local := by first | exact .inl rfl | exact .inr rfl) :
    RS X E (.AugAssign (.Name x pos') .Add e pos) (sAug i me) := rs_aug hN hi hx he hf
def eNeg (m : EM) : EM := fun ρ G => (m ρ G).bind fun v G1 => match v with
  | .int i => .ok (.int (-i)) G1
  | _ => .bad
theorem re_neg {e : Expr} {me : EM} (he : RE X E e me) : RE X E (.UnaryOp .USub e pos) (eNeg me) := by
  refine pe_weak (pe_un un_neg he) fun σ H Q ⟨ι, G, ρ, S, sl, p⟩ => run1 S sl ((Post.bind p).mono fun ι1 G1 H1 v x1 S1 p1 x rx => ?_)
  cases v with
  | int i => exact ⟨i, rx, p1.here S1 _ rfl⟩
  | _ => exact p1.elim
end

/-! ### facts of the top -/
theorem passE {X : Cx} {E : XK} : Passes CX0 X E := fun _ _ _ _ _ _ _ h => h.elim
structure Txt (fa : List He.Fa) (fn : List He.DefD) (fx : List (PySem.W.Frag → Bool)) (ts : List He.Tab) (w : World) (K : PySem.W.Frag) (mg : Str → Option Value) : Prop where
  more : ∀ f ∈ fx, f K = true
  says : He.SaysD fa fn K
  tabs : ∀ (i : Nat) (t : He.Tab), ts[i]? = some t → ∃ es n, L2.KDict K w (t.1 K) es n
  ns : ∃ h : Heap, K.In h ∧ h.Ns mainGlobals mg
section
variable {fa : List He.Fa} {fn : List He.DefD} {fx : List (PySem.W.Frag → Bool)} {ts : List He.Tab} {P : Program} {w : World} {K : PySem.W.Frag} {mg : Str → Option Value} {base : Heap}
theorem Txt.glo (T : Txt fa fn fx ts w K mg) (i : Nat) {x : Str} (h : fa[i]? = some (.glo x) := by rfl) : mg x = some (.ref (He.ga K x)) := by
  obtain ⟨hp, h1, h2⟩ := T.ns
  exact He.glo_ok h1 h2 (T.says.fact i h)
theorem Txt.free (T : Txt fa fn fx ts w K mg) (i : Nat) {x : Str} (h : fa[i]? = some (.free x) := by rfl) : mg x = none := by
  obtain ⟨hp, h1, h2⟩ := T.ns
  exact He.free_ok h1 h2 (T.says.fact i h)
theorem Txt.int (T : Txt fa fn fx ts w K mg) (i : Nat) {x : Str} {k : Int} (h : fa[i]? = some (.int x k) := by rfl) : ∃ t, mg x = some (.int k t) := by
  obtain ⟨hp, h1, h2⟩ := T.ns
  exact He.int_ok h1 h2 (T.says.fact i h)
/-- a whole number of the module -/
theorem rgi {X : Cx} {E : XK} {x : Str} {p : Pos} {k : Int} (T : Txt fa fn fx ts w X.K X.mg) (i : Nat) (hg : Gl X x := by rfl) (h : fa[i]? = some (.int x k) := by rfl) (hd : (x == ("__debug__" : Str)) = false := by decide) : RE X E (.Name x p) (eC (.int k)) := by
  obtain ⟨t, ht⟩ := T.int i h
  exact re_gint (pe_glob hg ht ⟨t, rfl⟩ hd)
/-- a built-in class's name -/
theorem pty {X : Cx} {x : Str} {T : String} {p : Pos} (E0 : Txt fa fn fx ts w X.K X.mg) (i : Nat) (hv : bootBuiltins x = some (.type T)) (hg : Gl X x := by rfl) (h : fa[i]? = some (.free x) := by rfl) (hn : x ≠ ("__name__" : Str) := by decide) (hd : (x == ("__debug__" : Str)) = false := by decide) : PE X (.Name x p) (fun σ H Q => Q (.ty T) H) := pe_bltn hg (E0.free i h) hv rfl hn hd
/-- the classes -/
theorem Txt.clsOk (T : Txt fa fn fx ts w K mg) (c i j : Nat) (hi : fa[i]? = some (.cls (cname c)) := by rfl) (hj : (fa.drop j).take (cfields c).length = (cfields c).map (He.Fa.noat (cname c)) := by rfl) : ClsOk K c := by
  refine ⟨He.cls_ok (T.says.fact i hi), fun f hf => ?_⟩
  have hm : He.Fa.noat (cname c) f ∈ fa := by
    have h1 : He.Fa.noat (cname c) f ∈ (cfields c).map (He.Fa.noat (cname c)) := List.mem_map_of_mem hf
    rw [← hj] at h1
    exact List.mem_of_mem_drop (List.mem_of_mem_take h1)
  obtain ⟨k, hk, e⟩ := List.getElem_of_mem hm
  exact He.noat_ok (T.says.fact k (by rw [List.getElem?_eq_getElem hk, e]))
variable {params : Arguments} {body : List Stmt} {scope : Scope} {N ps : List Str} {k : Nat} {b : SM}
/-- how arguments meet parameters -/
abbrev BindOk (x qual : Str) (params : Arguments) (body : List Stmt) (scope : Scope) (ps : List Str) : Prop := ∀ (kV doc pm : Value) (an : Option Addr) (cdv ct : Value) (us : List Value), us.length = ps.length →
  bindArgs (PySem.W.fnOf x qual params body scope Value.none kV doc pm an cdv ct) { pos := us } = pure (ps.zip us)
abbrev Body0 (P : Program) (w : World) (K : PySem.W.Frag) (mg : Str → Option Value) (base : Heap) (N : List Str) (qual : Str) (body : List Stmt) (scope : Scope) (fa : Addr) (k : Nat) (b : SM) : Prop := ∀ (cdv : Value) (A : Around) (outer : List PySem.Env) (s : Shared) (H : Hp) (E : XK), Room k (A.deeper (envOfC qual scope s.heap.objs.size fa cdv)) →
  RSs (cxOf CX0 P w K mg base N qual scope fa cdv A outer s H E).nox E body b

theorem fn_ok0 {mm : F1} (hmm : Wk ps.length mm (runDef N.length ps.length b)) {x qual : Str} {f : Addr} {fd : FuncData} {dvs : List V} {kws : List (Str × V)} (F : FunD K x qual params body scope dvs kws f fd) (S : FnScope N ps scope) (hb : Body0 P w K mg base N qual body scope f k b) :
    FnOk P w K mg base CX0 (k + 1) f fd ps (spF K ps.length mm) := fn_okM hmm F S fun cdv A outer s H E hr => PSs.nox (hb cdv A outer s H E hr)
theorem gf0 {mm : F1} (hmm : Wk ps.length mm (runDef N.length ps.length b)) (T : Txt fa fn fx ts w K mg) (i j : Nat) {x : Str} (S : FnScope N ps scope) (hb : ∀ f, Body0 P w K mg base N x body scope f k b) (B : BindOk x x params body scope ps) (hi : fn[i]? = some ⟨(x, none), x, x, params, body, scope, [], []⟩ := by rfl) (hj : fa[j]? = some (.glo x) := by rfl) :
    GF P w K mg base CX0 (k + 1) x ps.length mm [] := by
  obtain ⟨fd, F⟩ := T.says.def_ i hi
  exact ⟨_, fd, ps, [], T.glo j hj, F.kp, fn_ok0 hmm F S (hb _), F.bindsN B, rfl, .nil⟩
theorem mf0 {mm : F1} (hmm : Wk ps.length mm (runDef N.length ps.length b)) (T : Txt fa fn fx ts w K mg) (i j l c : Nat) {m q : Str} (S : FnScope N ps scope) (hb : ∀ f, Body0 P w K mg base N q body scope f k b) (B : BindOk m q params body scope ps) (hi : fn[i]? = some ⟨(cname c, some m), m, q, params, body, scope, [], []⟩ := by rfl) (hj : fa[j]? = some (.meth (cname c) m) := by rfl) (hl : fa[l]? = some (.cls (cname c)) := by rfl) (hm : m ∉ cfields c := by decide +kernel) :
    MF P w K mg base CX0 (k + 1) c m ps.length mm [] := by
  obtain ⟨fd, F⟩ := T.says.def_ i hi
  exact ⟨hm, He.cls_ok (T.says.fact l hl), _, fd, ps, [], He.meth_ok (T.says.fact j hj), fn_ok0 hmm F S (hb _), F.bindsN B, rfl, .nil⟩
theorem cf0 {mm : F1} (hmm : Wk ps.length mm (runDef N.length ps.length b)) (T : Txt fa fn fx ts w K mg) (i j l c : Nat) {q : Str} (ok : ClsOk K c) (S : FnScope N ps scope) (hb : ∀ f, Body0 P w K mg base N q body scope f k b) (B : BindOk "__init__" q params body scope ps) (hi : fn[i]? = some ⟨(cname c, some "__init__"), "__init__", q, params, body, scope, [], []⟩ := by rfl) (hj : fa[j]? = some (.mkr (cname c)) := by rfl) (hl : fa[l]? = some (.glo (cname c)) := by rfl) :
    CF P w K mg base CX0 (k + 1) c ps.length mm [] := by
  obtain ⟨fd, F⟩ := T.says.def_ i hi
  exact ⟨ok, T.glo l hl, _, fd, ps, [], He.mkr_ok (T.says.fact j hj), fn_ok0 hmm F S (hb _), F.bindsN B, rfl, .nil⟩

/-- the law's own promise, from what its mirror answers -/
theorem end_of {H : Hp} {a : Addr} {ns : List Int} {m : F1} {E : XK} (ho : Only H) (hS : SqL K H a (ns.map V.int)) (h : ∃ G, m [.scr (ns.map Val.int)] [] = .ok (.bl true) G) : spF K 1 m [.ref a] H (fun v _ => v = .bl true) E := by
  obtain ⟨G, e⟩ := h
  refine ⟨⟨fun _ => 0, fun _ => False⟩, [], [.scr (ns.map Val.int)], ⟨fun i j hi => absurd hi (Nat.not_lt_zero i), fun i hi => absurd hi (Nat.not_lt_zero i), fun a m => m.elim, fun i o e => by simp at e⟩, ⟨.ref a, [], rfl, ⟨a, _, rfl, ?_, ints_reps ns⟩, rfl⟩, rfl, ?_⟩
  · rcases hS with h | h
    · rcases h with h | h
      · rcases ho a with e | ⟨o, xs, e⟩
        · rw [e] at h
          cases h
        · rw [e] at h
          cases h
      · exact .inl h
    · exact .inr h
  · rw [e]
    exact fun ι' H' x S z rz => rz
end
end R1

/-! R1i: places given values, dicts. -/
namespace R1
open PySem PySem.Spec PyProof.Rows L2

/-! ### dicts change -/
section
variable {K : PySem.W.Frag} {ι : Vw} {n : Nat} {H : Hp}
theorem any_rep {k : Ky} : ∀ {l : List (Ky × Val)} {xs : List (Key × V)}, KReps K ι n H l xs → (xs.any fun kv => decide (kv.1 = kyOf k)) = (l.any fun kv => decide (kv.1 = k))
  | [], _, h => by rw [show _ = [] from h]; rfl
  | q :: l, _, ⟨y, ys, h1, _, h3⟩ => by
    rw [h1, List.any_cons, List.any_cons, any_rep h3]
    congr 1
    exact kyOf_dec q.1 k
theorem KReps.app {l m : List (Ky × Val)} : ∀ {xs ys : List (Key × V)}, KReps K ι n H l xs → KReps K ι n H m ys → KReps K ι n H (l ++ m) (xs ++ ys) := by
  induction l with
  | nil =>
    intro xs ys h h'
    rw [show xs = [] from h]
    exact h'
  | cons q l ih =>
    rintro xs ys ⟨y, zs, h1, h2, h3⟩ h'
    rw [h1]
    exact ⟨y, zs ++ ys, rfl, h2, ih h3 h'⟩
theorem KReps.put {k : Ky} {v : Val} {x : V} (r : Rep K ι n H v x) {l : List (Ky × Val)} {xs : List (Key × V)} (h : KReps K ι n H l xs) : KReps K ι n H (putKy l k v) (putK xs (kyOf k) x) := by
  unfold putKy putK
  rw [any_rep h]
  by_cases c : (l.any fun kv => decide (kv.1 = k)) = true
  · rw [if_pos c, if_pos c]
    clear c
    induction l generalizing xs with
    | nil =>
      rw [show xs = [] from h]
      exact rfl
    | cons q l ih =>
      obtain ⟨y, ys, h1, h2, h3⟩ := h
      rw [h1, List.map_cons, List.map_cons]
      by_cases e : q.1 = k
      · have e' : kyOf q.1 = kyOf k := by rw [e]
        rw [if_pos e]
        refine ⟨x, ys.map fun kv => if kv.1 = kyOf k then (kv.1, x) else kv, ?_, r, ih h3⟩
        rw [if_pos (show ((kyOf q.1, y) : Key × V).1 = kyOf k from e')]
      · have e' : ¬ kyOf q.1 = kyOf k := fun z => e (kyOf_inj z)
        rw [if_neg e]
        refine ⟨y, ys.map fun kv => if kv.1 = kyOf k then (kv.1, x) else kv, ?_, h2, ih h3⟩
        rw [if_neg (show ¬ ((kyOf q.1, y) : Key × V).1 = kyOf k from e')]
  · rw [if_neg c, if_neg c]
    exact h.app ⟨x, [], rfl, r, rfl⟩
theorem KReps.drop {k : Ky} : ∀ {l : List (Ky × Val)} {xs : List (Key × V)}, KReps K ι n H l xs → KReps K ι n H (dropKy l k) (dropK xs (kyOf k))
  | [], _, h => by
    rw [show _ = [] from h]
    exact rfl
  | q :: l, _, ⟨y, ys, h1, h2, h3⟩ => by
    have ih := KReps.drop (k := k) h3
    unfold dropKy dropK at ih ⊢
    rw [h1]
    by_cases e : q.1 = k
    · have e' : kyOf q.1 = kyOf k := by rw [e]
      rw [List.filter_cons_of_neg (by simp [e]), List.filter_cons_of_neg (by simp [e'])]
      exact ih
    · have e' : ¬ kyOf q.1 = kyOf k := fun z => e (kyOf_inj z)
      rw [List.filter_cons_of_pos (by simp [e]), List.filter_cons_of_pos (by simp [e'])]
      exact ⟨y, _, rfl, h2, ih⟩
end
/-- d.get(k), d[k] by what f makes of what stands there -/
def eDget (o m : EM) (f : Option Val → Option Val) : EM := fun ρ G => (o ρ G).bind fun v G1 => match dicOf G1 v with
  | none => .bad
  | some _ => (m ρ G1).bind fun u G2 => (match dicOf G2 v, keyOf u with
    | some l, some k => (match f (lookK l k) with
      | some w => .ok w G2
      | none => .bad)
    | _, _ => .bad)
def eDget2 (o m d : EM) : EM := fun ρ G => (o ρ G).bind fun v G1 => match dicOf G1 v with
  | none => .bad
  | some _ => (m ρ G1).bind fun u G2 => (d ρ G2).bind fun z G3 => (match dicOf G3 v, keyOf u with
    | some l, some k => .ok ((lookK l k).getD z) G3
    | _, _ => .bad)
def eDin (neg : Bool) (m o : EM) : EM := fun ρ G => (m ρ G).bind fun u G1 => (o ρ G1).bind fun v G2 => match dicOf G2 v, keyOf u with
  | some l, some k => .ok (.bl (neg != (lookK l k).isSome)) G2
  | _, _ => .bad
def isDic (G : Store) (v : Val) : Option (Nat × List (Ky × Val)) := match v with
  | .obj i => (match G[i]? with
    | some (.dic l) => some (i, l)
    | _ => none)
  | _ => none
/-- d.pop(k) -/
def eDpop (o m : EM) : EM := fun ρ G => (o ρ G).bind fun v G1 => match isDic G1 v with
  | none => .bad
  | some _ => (m ρ G1).bind fun u G2 => (match isDic G2 v, keyOf u with
    | some (i, l), some k => (match lookK l k with
      | some w => .ok w (G2.set i (.dic (dropKy l k)))
      | none => .bad)
    | _, _ => .bad)
/-- d.pop(k, z) -/
def eDpop2 (o m d : EM) : EM := fun ρ G => (o ρ G).bind fun v G1 => match isDic G1 v with
  | none => .bad
  | some _ => (m ρ G1).bind fun u G2 => (d ρ G2).bind fun z G3 => (match isDic G3 v, keyOf u with
    | some (i, l), some k => (match lookK l k with
      | some w => .ok w (G3.set i (.dic (dropKy l k)))
      | none => .ok z G3)
    | _, _ => .bad)
/-- d[k] = e -/
def sDput (o m e : EM) : SM := fun ρ G => (e ρ G).toS fun w G1 => (o ρ G1).toS fun v G2 => (m ρ G2).toS fun u G3 => match isDic G3 v, keyOf u with
  | some (i, l), some k => if l.length < sizeLine then .next ρ (G3.set i (.dic (putKy l k w))) else .bad
  | _, _ => .bad
theorem isDic_at {K : PySem.W.Frag} {ι : Vw} {G : Store} {H : Hp} {v : Val} {x : V} {i : Nat} {l : List (Ky × Val)} (S : Sim K ι G H) (r : Rep K ι G.length H v x) (h : isDic G v = some (i, l)) : x = .ref (ι i) ∧ G[i]? = some (.dic l) ∧ ∃ xs, H (ι i) = some (.dK xs) ∧ KReps K ι G.length H l xs := by
  unfold isDic at h
  cases v with
  | obj j =>
    dsimp only at h
    cases e : G[j]? with
    | none => rw [e] at h; cases h
    | some o =>
      rw [e] at h
      cases o with
      | dic m =>
        cases h
        exact ⟨r.2, e, S.dic e⟩
      | _ => cases h
  | _ => cases h
theorem ref_eq {a b : Addr} {x : V} (h : x = .ref a) (h' : x = .ref b) : a = b := by
  have := h.symm.trans h'
  injection this
theorem isD_of {H : Hp} {a : Addr} {xs : List (Key × V)} (h : Rd H a (.dK xs)) : IsD H a := .inl ⟨xs, h⟩
theorem dget_at {K : PySem.W.Frag} {E : XK} {ι : Vw} {G : Store} {H : Hp} {v u : Val} {x y : V} {l : List (Ky × Val)} {k : Ky} (S : Sim K ι G H) (rx : Rep K ι G.length H v x) (ry : Rep K ι G.length H u y) (e1 : dicOf G v = some l) (e2 : keyOf u = some k) :
    ∃ a o, x = .ref a ∧ DGet H a y o ∧ (∀ w, lookK l k = some w → ∃ z, o = some z ∧ Rep K ι G.length H w z) ∧ (lookK l k = none → o = none) := by
  obtain ⟨a, ys, ey, g1, g2⟩ := dicOf_at S rx e1
  exact ⟨a, valV ys (kyOf k), ey, .inl ⟨ys, kyOf k, g1, key_rep ry e2, rfl⟩, g2.val.1, g2.val.2⟩
section
variable {X : Cx} {E : XK} {o e d : Expr} {mo me md : EM} {apos cpos pos pos' : Pos}
theorem re_dget1 (hu : X.A.units + 64 < cLine) (ho : RE X E o mo) (he : RE X E e me) (h : M1 X o "get" apos e cpos) : RE X E (.Call (.Attribute o "get" apos) [e] [] cpos) (eDget mo me fun z => some (z.getD .non)) := by
  refine pe_weak (pe_dget1 (by omega) ho he h) fun σ H Q ⟨ι, G, ρ, S, sl, q⟩ => run1 S sl ((Post.bind q).mono fun ι1 G1 H1 v x1 S1 q1 x rx => ?_)
  cases e1 : dicOf G1 v with
  | none => rw [e1] at q1; exact q1.elim
  | some l1 =>
    rw [e1] at q1
    obtain ⟨a, xs, ex, h1, h2⟩ := dicOf_at S1 rx e1
    refine ⟨a, ex, isD_of h1, run1 S1 (sl.ext x1) ((Post.bind q1).mono fun ι2 G2 H2 u x2 S2 q2 y ry => ?_)⟩
    cases e2 : dicOf G2 v with
    | none => rw [e2] at q2; exact q2.elim
    | some l =>
      cases e3 : keyOf u with
      | none => rw [e2, e3] at q2; exact q2.elim
      | some k =>
        rw [e2, e3] at q2
        dsimp only at q2
        obtain ⟨a', oo, ey, g1, g2, g3⟩ := dget_at (E := E) S2 (rx.ext x2) ry e2 e3
        cases ref_eq ey ex
        refine ⟨oo, g1, ?_⟩
        cases e4 : lookK l k with
        | none =>
          rw [e4] at q2
          rw [g3 e4]
          exact q2.here S2 _ rfl
        | some w =>
          rw [e4] at q2
          obtain ⟨z, ez, rz⟩ := g2 w e4
          rw [ez]
          exact q2.here S2 _ rz
theorem re_dget2 (hu : X.A.units + 64 < cLine) (ho : RE X E o mo) (he : RE X E e me) (hd : RE X E d md) (h : M2 X o "get" apos e d cpos) : RE X E (.Call (.Attribute o "get" apos) [e, d] [] cpos) (eDget2 mo me md) := by
  refine pe_weak (pe_dget2 (by omega) ho he hd h) fun σ H Q ⟨ι, G, ρ, S, sl, q⟩ => run1 S sl ((Post.bind q).mono fun ι1 G1 H1 v x1 S1 q1 x rx => ?_)
  cases e1 : dicOf G1 v with
  | none => rw [e1] at q1; exact q1.elim
  | some l1 =>
    rw [e1] at q1
    obtain ⟨a, xs, ex, h1, h2⟩ := dicOf_at S1 rx e1
    refine ⟨a, ex, isD_of h1, run1 S1 (sl.ext x1) ((Post.bind q1).mono fun ι2 G2 H2 u x2 S2 q2 y ry => run1 S2 (sl.ext (x1.trans x2)) ((Post.bind q2).mono fun ι3 G3 H3 w x3 S3 q3 z rz => ?_))⟩
    cases e2 : dicOf G3 v with
    | none => rw [e2] at q3; exact q3.elim
    | some l =>
      cases e3 : keyOf u with
      | none => rw [e2, e3] at q3; exact q3.elim
      | some k =>
        rw [e2, e3] at q3
        dsimp only at q3
        obtain ⟨a', oo, ey, g1, g2, g3⟩ := dget_at (E := E) S3 (rx.ext (x2.trans x3)) (ry.ext x3) e2 e3
        cases ref_eq ey ex
        refine ⟨oo, g1, ?_⟩
        cases e4 : lookK l k with
        | none =>
          rw [e4] at q3
          rw [g3 e4]
          exact q3.here S3 _ rz
        | some w =>
          rw [e4] at q3
          obtain ⟨z, ez, rz⟩ := g2 w e4
          rw [ez]
          exact q3.here S3 _ rz
theorem din_w {neg : Bool} : ∀ σ H Q, tE X.K E (eDin neg me mo) σ H Q → tE X.K E me σ H fun y H1 => tE X.K E mo σ H1 fun x H2 => ∃ a oo, x = .ref a ∧ DGet H2 a y oo ∧ Q (.bl (neg != oo.isSome)) H2 := fun σ H Q ⟨ι, G, ρ, S, sl, q⟩ =>
  run1 S sl ((Post.bind q).mono fun ι1 G1 H1 u x1 S1 q1 y ry => run1 S1 (sl.ext x1) ((Post.bind q1).mono fun ι2 G2 H2 v x2 S2 q2 x rx => by
    cases e2 : dicOf G2 v with
    | none => rw [e2] at q2; exact q2.elim
    | some l =>
      cases e3 : keyOf u with
      | none => rw [e2, e3] at q2; exact q2.elim
      | some k =>
        rw [e2, e3] at q2
        dsimp only at q2
        obtain ⟨a, oo, ey, g1, g2, g3⟩ := dget_at (E := E) S2 rx (ry.ext x2) e2 e3
        refine ⟨a, oo, ey, g1, ?_⟩
        have e5 : oo.isSome = (lookK l k).isSome := by
          cases e4 : lookK l k with
          | none => rw [g3 e4]; rfl
          | some w => obtain ⟨z, ez, _⟩ := g2 w e4; rw [ez]; rfl
        rw [e5]
        exact q2.here S2 _ rfl))
theorem din_t (neg : Bool) : ∀ σ H Q, tE X.K E (eDin neg me mo) σ H Q → (bif neg then tDNotIn (tE X.K E me) (tE X.K E mo) else tDIn (tE X.K E me) (tE X.K E mo)) σ H Q := fun σ H Q h => by
  have h2 := din_w σ H Q h
  cases neg with
  | false =>
    show tE X.K E me σ H fun y H1 => tE X.K E mo σ H1 fun x H2 => ∃ a o, x = .ref a ∧ DGet H2 a y o ∧ Q (.bl o.isSome) H2
    simpa only [Bool.false_bne] using h2
  | true =>
    show tE X.K E me σ H fun y H1 => tE X.K E mo σ H1 fun x H2 => ∃ a o, x = .ref a ∧ DGet H2 a y o ∧ Q (.bl !o.isSome) H2
    simpa only [Bool.true_bne] using h2
theorem re_din (hu : X.A.units + 64 < cLine) (he : RE X E e me) (ho : RE X E o mo) (hm : behindInMarks .In o = false := by rfl) : RE X E (.Compare e [.In] [o] pos) (eDin false me mo) := pe_weak (pe_cmp (pc_din (by omega) he ho) hm) (din_t false)
theorem re_dnotin (hu : X.A.units + 64 < cLine) (he : RE X E e me) (ho : RE X E o mo) (hm : behindInMarks .NotIn o = false := by rfl) : RE X E (.Compare e [.NotIn] [o] pos) (eDin true me mo) := pe_weak (pe_cmp (pc_dnotin (by omega) he ho) hm) (din_t true)
theorem rt_din (hu : X.A.units + 64 < cLine) (he : RE X E e me) (ho : RE X E o mo) (hm : behindInMarks .In o = false := by rfl) : RT X E (.Compare e [.In] [o] pos) (eTest (eDin false me mo)) := rt_of (pt_cmp (pc_din (by omega) he ho) hm) (din_t false)
theorem rt_dnotin (hu : X.A.units + 64 < cLine) (he : RE X E e me) (ho : RE X E o mo) (hm : behindInMarks .NotIn o = false := by rfl) : RT X E (.Compare e [.NotIn] [o] pos) (eTest (eDin true me mo)) := rt_of (pt_cmp (pc_dnotin (by omega) he ho) hm) (din_t true)
theorem re_dpop1 (ho : RE X E o mo) (he : RE X E e me) (h : M1 X o "pop" apos e cpos) : RE X E (.Call (.Attribute o "pop" apos) [e] [] cpos) (eDpop mo me) := by
  refine pe_weak (pe_dpop1 ho he h) fun σ H Q ⟨ι, G, ρ, S, sl, q⟩ => run1 S sl ((Post.bind q).mono fun ι1 G1 H1 v x1 S1 q1 x rx => ?_)
  cases e1 : isDic G1 v with
  | none => rw [e1] at q1; exact q1.elim
  | some p1 =>
    obtain ⟨i1, l1⟩ := p1
    rw [e1] at q1
    obtain ⟨ex, _, xs, h1, _⟩ := isDic_at S1 rx e1
    refine ⟨ι1 i1, ex, isD_of (.inl h1), run1 S1 (sl.ext x1) ((Post.bind q1).mono fun ι2 G2 H2 u x2 S2 q2 y ry => ?_)⟩
    cases e2 : isDic G2 v with
    | none => rw [e2] at q2; exact q2.elim
    | some p2 =>
      obtain ⟨i, l⟩ := p2
      cases e3 : keyOf u with
      | none => rw [e2, e3] at q2; exact q2.elim
      | some k =>
        rw [e2, e3] at q2
        dsimp only at q2
        obtain ⟨ey, eg, ys, g1, g2⟩ := isDic_at S2 (rx.ext x2) e2
        cases e4 : lookK l k with
        | none => rw [e4] at q2; exact q2.elim
        | some w =>
          rw [e4] at q2
          obtain ⟨z, ez, rz⟩ := g2.val.1 w e4
          have ea := ref_eq ey ex
          obtain ⟨s3, x3⟩ := S2.set (u := .dK (dropK ys (kyOf k))) (o := .dic (dropKy l k)) eg rfl ⟨_, upd_same, g2.drop.ext (Ext.updE (S2.fr eg g1 trivial))⟩
          rw [ea] at g1 s3 x3
          exact ⟨ys, kyOf k, z, g1, key_rep ry e3, ez, q2 ι2 _ x3 s3 z (rz.ext x3)⟩
theorem re_dpop2 (ho : RE X E o mo) (he : RE X E e me) (hd : RE X E d md) (h : M2 X o "pop" apos e d cpos) : RE X E (.Call (.Attribute o "pop" apos) [e, d] [] cpos) (eDpop2 mo me md) := by
  refine pe_weak (pe_dpop2 ho he hd h) fun σ H Q ⟨ι, G, ρ, S, sl, q⟩ => run1 S sl ((Post.bind q).mono fun ι1 G1 H1 v x1 S1 q1 x rx => ?_)
  cases e1 : isDic G1 v with
  | none => rw [e1] at q1; exact q1.elim
  | some p1 =>
    obtain ⟨i1, l1⟩ := p1
    rw [e1] at q1
    obtain ⟨ex, _, xs, h1, _⟩ := isDic_at S1 rx e1
    refine ⟨ι1 i1, ex, isD_of (.inl h1), run1 S1 (sl.ext x1) ((Post.bind q1).mono fun ι2 G2 H2 u x2 S2 q2 y ry => run1 S2 (sl.ext (x1.trans x2)) ((Post.bind q2).mono fun ι3 G3 H3 w x3 S3 q3 z rz => ?_))⟩
    cases e2 : isDic G3 v with
    | none => rw [e2] at q3; exact q3.elim
    | some p2 =>
      obtain ⟨i, l⟩ := p2
      cases e3 : keyOf u with
      | none => rw [e2, e3] at q3; exact q3.elim
      | some k =>
        rw [e2, e3] at q3
        dsimp only at q3
        obtain ⟨ey, eg, ys, g1, g2⟩ := isDic_at S3 (rx.ext (x2.trans x3)) e2
        have ea := ref_eq ey ex
        have g1' := g1
        rw [ea] at g1'
        refine ⟨ys, kyOf k, g1', key_rep (ry.ext x3) e3, fun vv hv => ?_, fun hv => ?_⟩
        · cases e4 : lookK l k with
          | none => rw [g2.val.2 e4] at hv; cases hv
          | some w' =>
            rw [e4] at q3
            obtain ⟨z', ez, rz'⟩ := g2.val.1 w' e4
            rw [ez] at hv
            cases hv
            obtain ⟨s3, x4⟩ := S3.set (u := .dK (dropK ys (kyOf k))) (o := .dic (dropKy l k)) eg rfl ⟨_, upd_same, g2.drop.ext (Ext.updE (S3.fr eg g1 trivial))⟩
            rw [ea] at s3 x4
            exact q3 ι3 _ x4 s3 _ (rz'.ext x4)
        · cases e4 : lookK l k with
          | none => rw [e4] at q3; exact q3.here S3 _ rz
          | some w' =>
            obtain ⟨z', ez, _⟩ := g2.val.1 w' e4
            rw [ez] at hv
            cases hv
theorem rs_dput (hu : X.A.units + 64 < cLine) (ho : RE X E o mo) (he : RE X E e me) (hd : RE X E d md) (hs : swapsWith d (some (.Subscript o e pos')) pos.line X.env = pure false := by rfl) : RS X E (.Assign [.Subscript o e pos'] d pos) (sDput mo me md) := by
  refine ps_weak (ps_dput (by omega) ho he hd hs) fun D σ H ⟨ι, G, ρ, S, sl, q⟩ => run1 S sl (q.ofRes.mono fun ι1 G1 H1 w x1 S1 q1 z rz => run1 S1 (sl.ext x1) (q1.ofRes.mono fun ι2 G2 H2 v x2 S2 q2 x rx => run1 S2 (sl.ext (x1.trans x2)) (q2.ofRes.mono fun ι3 G3 H3 u x3 S3 q3 y ry => ?_)))
  cases e2 : isDic G3 v with
  | none => rw [e2] at q3; exact q3.elim
  | some p2 =>
    obtain ⟨i, l⟩ := p2
    cases e3 : keyOf u with
    | none => rw [e2, e3] at q3; exact q3.elim
    | some k =>
      rw [e2, e3] at q3
      dsimp only at q3
      obtain ⟨ey, eg, ys, g1, g2⟩ := isDic_at S3 (rx.ext x3) e2
      by_cases hl : l.length < sizeLine
      · rw [if_pos hl] at q3
        obtain ⟨s3, x4⟩ := S3.set (u := .dK (putK ys (kyOf k) z)) (o := .dic (putKy l k w)) eg rfl ⟨_, upd_same, (g2.put (rz.ext (x2.trans x3))).ext (Ext.updE (S3.fr eg g1 trivial))⟩
        exact ⟨ι3 i, _, ey, .inl ⟨ys, kyOf k, g1, key_rep ry e3, by rw [g2.length]; exact hl, rfl⟩, q3 ι3 _ σ x4 s3 (sl.ext ((x1.trans x2).trans (x3.trans x4)))⟩
      · rw [if_neg hl] at q3
        exact q3.elim
end
end R1

/-! R1j: items of lists given values. -/
namespace R1
open PySem PySem.Spec PyProof.Rows L2
/-- the item at i of a list is given a value -/
def setIx (v u w : Val) (G : Store) : Option Store := match u with
  | .int k => setLst v (fun l => (ixN l.length k).map fun j => l.set j w) G
  | _ => none
/-- xs[i] = e -/
def sIxSet (o m e : EM) : SM := fun ρ G => (e ρ G).toS fun w G1 => (o ρ G1).toS fun v G2 => (m ρ G2).toS fun u G3 => match setIx v u w G3 with
  | some G4 => .next ρ G4
  | none => .bad
theorem setIx_ok {K : PySem.W.Frag} {ι : Vw} {G G' : Store} {H : Hp} {v u w : Val} {x y z : V} (S : Sim K ι G H) (rx : Rep K ι G.length H v x) (ry : Rep K ι G.length H u y) (rz : Rep K ι G.length H w z) (h : setIx v u w G = some G') :
    ∃ p xs k j, x = .ref p ∧ y = .int k ∧ H p = some (.lst xs) ∧ ixN xs.length k = some j ∧ Sim K ι G' (L2.upd H p (.lst (xs.set j z))) ∧ Ext K ι G.length H ι G'.length (L2.upd H p (.lst (xs.set j z))) := by
  unfold setIx at h
  cases u with
  | int k =>
    dsimp only at h
    obtain ⟨i, l, l', xs, rfl, e1, e2, e3, h1, h2, h3⟩ := setLst_ok S rx h
    cases e4 : ixN l.length k with
    | none => rw [e4] at e2; cases e2
    | some j =>
      rw [e4] at e2
      cases e2
      obtain ⟨s1, s2⟩ := h3 (xs.set j z) (h2.set rz j)
      exact ⟨ι i, xs, k, j, e3, ry, h1, by rw [h2.length]; exact e4, s1, s2⟩
  | _ => cases h
/-- an item of a list of the store -/
def fIxL : F2 := fun v u G => match v, u with
  | .obj i, .int k => (match G[i]? with
    | some (.lst l) => (match atL l k with
      | some w => .ok w G
      | none => .bad)
    | _ => .bad)
  | _, _ => .bad
/-- xs[i] += e -/
def sIxAug (o m e : EM) : SM := fun ρ G => (o ρ G).toS fun v G1 => (m ρ G1).toS fun u G2 => (fIxL v u G2).toS fun a G3 => (e ρ G3).toS fun b G4 => match addI a b with
  | some c => (match setIx v u c G4 with
    | some G5 => .next ρ G5
    | none => .bad)
  | none => .bad
def rGetL (K : PySem.W.Frag) : V → V → Hp → VK → Prop := fun x y H Q => ∃ p ys k v, x = .ref p ∧ y = .int k ∧ H p = some (.lst ys) ∧ L2.atI ys k = some v ∧ Q v H
theorem get_lst {X : Cx} : PGet X (rGetL X.K) := by
  intro pins s σ H o i ov iv Q I ro ri ⟨p, ys, k, v, e1, e2, h1, h2, q⟩
  subst e1
  subst e2
  have eo : ov = .ref p := ro
  obtain ⟨t, et⟩ := ri
  subst eo
  subst et
  obtain ⟨its, n, hv, hg, hl⟩ := I.lst h1
  have len := hv.length
  have hL : s.heap.IsList p its.toArray := ⟨_, hg, rfl, n, rfl⟩
  have hb : (sizeLine : Int) < 2 ^ 63 := by decide
  have hl' : (ys.length : Int) ≤ (sizeLine : Int) := by exact_mod_cast hl
  unfold L2.atI at h2
  cases e0 : ixN ys.length k with
  | none => rw [e0] at h2; cases h2
  | some j =>
    rw [e0] at h2
    obtain ⟨u, hu, ru⟩ := hv.get h2
    unfold ixN at e0
    by_cases hk : 0 ≤ k
    · rw [if_pos hk] at e0
      by_cases hk2 : k < ys.length
      · rw [if_pos hk2] at e0
        have ej := Option.some.inj e0
        refine wpAny_getItem_list (x := u) hL hk (by omega) (by rw [List.getElem?_toArray, ej]; exact hu) ⟨v, H, I, ru, q⟩
      · rw [if_neg hk2] at e0
        cases e0
    · rw [if_neg hk] at e0
      by_cases hk2 : -(ys.length : Int) ≤ k
      · rw [if_pos hk2] at e0
        have ej := Option.some.inj e0
        refine wpAny_getItem_list_neg (x := u) hL (by omega) (by simp; omega) (by omega) ?_ ⟨v, H, I, ru, q⟩
        rw [List.getElem?_toArray, List.size_toArray, ← len, ej]
        exact hu
      · rw [if_neg hk2] at e0
        cases e0
section
variable {X : Cx} {E : XK} {o e d : Expr} {mo me md : EM} {pos pos' : Pos}
theorem rs_ixset (ho : RE X E o mo) (he : RE X E e me) (hd : RE X E d md) (hs : swapsWithSole [.Subscript o e pos'] d pos.line X.env = pure false := by rfl) (hw : swappedStores [.Subscript o e pos'] d X.env = pure none := by rfl)
    (h1 : (assignEach [.Subscript o e pos'] X.env).map (·.2) = [assign (.Subscript o e pos') X.env] := by rfl)
    (ha : ∀ (v : Value), assign (.Subscript o e pos') X.env v = (do
      let ov ← holding [v] (eval o X.env)
      let iv ← holding [v, ov] (eval e X.env)
      standAt pos'
      holding [v, ov, iv] (setItem ov iv v)
      release [v, ov, iv] []) := by intro _; rfl) : RS X E (.Assign [.Subscript o e pos'] d pos) (sIxSet mo me md) := by
  refine ps_weak (ps_asg hd (pg_sub ho he set_list ha) hs hw h1) fun D σ H ⟨ι, G, ρ, S, sl, q⟩ => run1 S sl (q.ofRes.mono fun ι1 G1 H1 w x1 S1 q1 z rz => run1 S1 (sl.ext x1) (q1.ofRes.mono fun ι2 G2 H2 v x2 S2 q2 x rx => run1 S2 (sl.ext (x1.trans x2)) (q2.ofRes.mono fun ι3 G3 H3 u x3 S3 q3 y ry => ?_)))
  cases e2 : setIx v u w G3 with
  | none => rw [e2] at q3; exact q3.elim
  | some G4 =>
    rw [e2] at q3
    obtain ⟨p, xs, k, j, a1, a2, a3, a4, s4, x4⟩ := setIx_ok S3 (rx.ext x3) ry (rz.ext (x2.trans x3)) e2
    exact ⟨p, xs, k, j, a1, a2, a3, a4, q3 ι3 _ σ x4 s4 (sl.ext ((x1.trans x2).trans (x3.trans x4)))⟩
theorem getL_at {K : PySem.W.Frag} {E : XK} {ι : Vw} {G : Store} {H : Hp} {v u a : Val} {x y : V} {f : Store → Prop} (S : Sim K ι G H) (rx : Rep K ι G.length H v x) (ry : Rep K ι G.length H u y) {i : Nat} (hv : v = .obj i) {k : Int} (hu : u = .int k) {l : List Val} (hg : G[i]? = some (.lst l)) (ha : atL l k = some a) :
    ∃ p ys k w, x = .ref p ∧ y = .int k ∧ H p = some (.lst ys) ∧ L2.atI ys k = some w ∧ Rep K ι G.length H a w := by
  subst hv
  subst hu
  obtain ⟨xs, h1, h2⟩ := S.lst hg
  obtain ⟨z, ez, rz⟩ := h2.at ha
  exact ⟨ι i, xs, k, z, rx.2, ry, h1, ez, rz⟩
/-- xs[i] += e, xs a list -/
theorem rs_ixaug {tpos : Pos} (ho : RE X E o mo) (he : RE X E e me) (hd : RE X E d md) (hs : ∀ (ov iv new : Value), augStore e ov iv new = (do
      holding [new, ov, iv] (setItem ov iv new)
      release [new, ov, iv] []
      pure Flow.next) := by intro _ _ _; rfl) : RS X E (.AugAssign (.Subscript o e tpos) .Add d pos) (sIxAug mo me md) := by
  refine ps_weak (ps_augS ho he get_lst hd ip_add set_list hs) fun D σ H ⟨ι, G, ρ, S, sl, q⟩ => run1 S sl (q.ofRes.mono fun ι1 G1 H1 v x1 S1 q1 x rx => run1 S1 (sl.ext x1) (q1.ofRes.mono fun ι2 G2 H2 u x2 S2 q2 y ry => ?_))
  cases v with
  | obj i =>
    cases u with
    | int k =>
      cases eg : G2[i]? with
      | none => simp [fIxL, eg, Res.toS] at q2; exact q2.elim
      | some ob =>
        cases ob with
        | lst l =>
          cases ea : atL l k with
          | none => simp [fIxL, eg, ea, Res.toS] at q2; exact q2.elim
          | some a =>
            simp only [fIxL, eg, ea, Res.toS] at q2
            obtain ⟨xs, h1, h2⟩ := S2.lst eg
            obtain ⟨w, ew, rw_⟩ := h2.at ea
            refine ⟨ι2 i, xs, k, w, (rx.ext x2).2, ry, h1, ew, ?_⟩
            have q3 : SPost X.K E ι2 G2.length H2 ((md ρ G2).toS fun b G4 => (match addI a b with
              | some c => (match setIx (.obj i) (.int k) c G4 with
                | some G5 => SR.next ρ G5
                | none => .bad)
              | none => .bad)) D := q2
            refine run1 S2 (sl.ext (x1.trans x2)) (q3.ofRes.mono fun ι4 G4 H4 b x4 S4 q4 z rz => ?_)
            cases e5 : addI a b with
            | none => rw [e5] at q4; exact q4.elim
            | some c =>
              rw [e5] at q4
              obtain ⟨m, n, rfl, rfl, rfl⟩ := addI_inv e5
              dsimp only at q4
              cases e6 : setIx (.obj i) (.int k) (.int (m + n)) G4 with
              | none => rw [e6] at q4; exact q4.elim
              | some G5 =>
                rw [e6] at q4
                obtain ⟨p, ys, k', j, a1, a2, a3, a4, s5, x5⟩ := setIx_ok (w := .int (m + n)) (z := .int (m + n)) S4 (rx.ext (x2.trans x4)) (ry.ext x4) rfl e6
                exact ⟨m, n, rw_, rz, p, ys, k', j, a1, a2, a3, a4, q4 ι4 _ σ x5 s5 (sl.ext ((x1.trans x2).trans (x4.trans x5)))⟩
        | _ => simp [fIxL, eg, Res.toS] at q2; exact q2.elim
    | _ => exact q2.elim
  | _ => cases u <;> exact q2.elim
end
end R1

/-! R1k: one word for lists and dicts. -/
namespace R1
open PySem PySem.Spec PyProof.Rows L2
theorem op_or {f g : F2} {a b : EM} (ρ : Env1) (G : Store) : eOp (orF f g) a b ρ G = eOp f a b ρ G ∨ eOp (orF f g) a b ρ G = eOp g a b ρ G := by
  unfold eOp
  cases a ρ G with
  | ok v G1 =>
    simp only [Res.bind]
    cases b ρ G1 with
    | ok u G2 =>
      simp only [Res.bind]
      unfold orF
      cases f v u G2 <;> first | exact .inl rfl | exact .inr rfl
    | exc c G2 => exact .inl rfl
    | bad => exact .inl rfl
  | exc c G1 => exact .inl rfl
  | bad => exact .inl rfl
section
variable {X : Cx} {E : XK} {o e d a b : Expr} {mo me md ma mb : EM} {pos pos' : Pos}
/-- a list's, a tuple's, a dict's item -/
theorem re_ixA (hu : X.A.units + 64 < cLine) (ha : RE X E a ma) (hb : RE X E b mb) (hs : PlainIx b := by intro _ _; rfl) (hs2 : NoSl b := by intro _ _; rfl) : RE X E (.Subscript a b pos) (eOp fIx ma mb) :=
  re_sel (re_ix ha hb hs) (re_ixD hu ha hb hs2) fun ρ G => op_or ρ G
/-- in a list, a tuple, a dict -/
def fDin (neg : Bool) : F2 := fun u v G => match dicOf G v, keyOf u with
  | some l, some k => .ok (.bl (neg != (lookK l k).isSome)) G
  | _, _ => .bad
theorem din_eq (neg : Bool) : eDin neg me mo = eOp (fDin neg) me mo := rfl
def fInA (neg : Bool) : F2 := orF (fIn neg) (fDin neg)
theorem re_inA (hu : X.A.units + 64 < cLine) (ha : RE X E a ma) (hb : RE X E b mb) (hm : behindInMarks .In b = false := by rfl) : RE X E (.Compare a [.In] [b] pos) (eOp (fInA false) ma mb) :=
  re_sel (re_in hu ha hb hm) (re_din hu ha hb hm) fun ρ G => op_or ρ G
theorem re_notinA (hu : X.A.units + 64 < cLine) (ha : RE X E a ma) (hb : RE X E b mb) (hm : behindInMarks .NotIn b = false := by rfl) : RE X E (.Compare a [.NotIn] [b] pos) (eOp (fInA true) ma mb) :=
  re_sel (re_notin hu ha hb hm) (re_dnotin hu ha hb hm) fun ρ G => op_or ρ G
theorem test_or {f g : F2} (ρ : Env1) (G : Store) : eTest (eOp (orF f g) ma mb) ρ G = eTest (eOp f ma mb) ρ G ∨ eTest (eOp (orF f g) ma mb) ρ G = eTest (eOp g ma mb) ρ G := by
  unfold eTest
  rcases op_or (f := f) (g := g) (a := ma) (b := mb) ρ G with e | e
  · exact .inl (by rw [e])
  · exact .inr (by rw [e])
theorem rt_inA (hu : X.A.units + 64 < cLine) (ha : RE X E a ma) (hb : RE X E b mb) (hm : behindInMarks .In b = false := by rfl) : RT X E (.Compare a [.In] [b] pos) (eTest (eOp (fInA false) ma mb)) :=
  rt_sel (rt_in hu ha hb hm) (rt_din hu ha hb hm) fun ρ G => test_or ρ G
theorem rt_notinA (hu : X.A.units + 64 < cLine) (ha : RE X E a ma) (hb : RE X E b mb) (hm : behindInMarks .NotIn b = false := by rfl) : RT X E (.Compare a [.NotIn] [b] pos) (eTest (eOp (fInA true) ma mb)) :=
  rt_sel (rt_notin hu ha hb hm) (rt_dnotin hu ha hb hm) fun ρ G => test_or ρ G
/-- o[i] = e, o a list or a dict -/
def putA (v u w : Val) (G : Store) : Option Store := match isDic G v with
  | some (i, l) => (match keyOf u with
    | some k => if l.length < sizeLine then some (G.set i (.dic (putKy l k w))) else none
    | none => none)
  | none => setIx v u w G
def sPut (o m e : EM) : SM := fun ρ G => (e ρ G).toS fun w G1 => (o ρ G1).toS fun v G2 => (m ρ G2).toS fun u G3 => match putA v u w G3 with
  | some G4 => .next ρ G4
  | none => .bad
theorem rs_put (hu : X.A.units + 64 < cLine) (ho : RE X E o mo) (he : RE X E e me) (hd : RE X E d md) (hs : swapsWith d (some (.Subscript o e pos')) pos.line X.env = pure false := by rfl) (hs' : swapsWithSole [.Subscript o e pos'] d pos.line X.env = pure false := by rfl) (hw : swappedStores [.Subscript o e pos'] d X.env = pure none := by rfl)
    (h1 : (assignEach [.Subscript o e pos'] X.env).map (·.2) = [assign (.Subscript o e pos') X.env] := by rfl)
    (ha : ∀ (v : Value), assign (.Subscript o e pos') X.env v = (do
      let ov ← holding [v] (eval o X.env)
      let iv ← holding [v, ov] (eval e X.env)
      standAt pos'
      holding [v, ov, iv] (setItem ov iv v)
      release [v, ov, iv] []) := by intro _; rfl) : RS X E (.Assign [.Subscript o e pos'] d pos) (sPut mo me md) :=
  rs_sel (rs_ixset ho he hd hs' hw h1 ha) (rs_dput hu ho he hd hs) fun ρ G => by
    unfold sPut sIxSet sDput
    cases md ρ G with
    | ok w G1 =>
      simp only [Res.toS]
      cases mo ρ G1 with
      | ok v G2 =>
        simp only
        cases me ρ G2 with
        | ok u G3 =>
          simp only
          unfold putA
          cases isDic G3 v with
          | none => exact .inl rfl
          | some p =>
            obtain ⟨i, l⟩ := p
            simp only
            cases keyOf u with
            | none => exact .inr rfl
            | some k =>
              simp only
              by_cases hl : l.length < sizeLine
              · rw [if_pos hl, if_pos hl]
                exact .inr rfl
              · rw [if_neg hl, if_neg hl]
                exact .inr rfl
        | _ => exact .inl rfl
      | _ => exact .inl rfl
    | _ => exact .inl rfl
end
end R1

/-! R1l: dict(d), list(d), sorted(d), len(d). -/
namespace R1
open PySem PySem.Spec PyProof.Rows L2
def keyV : Ky → Val
  | .inl i => .int i
  | .inr k => .str k
def intKeys : List (Ky × Val) → Option (List Int)
  | [] => some []
  | (.inl i, _) :: l => (intKeys l).map (i :: ·)
  | (.inr _, _) :: _ => none
def bDict (z : Bool) : F1 := fun vs G => match vs with
  | [v] => (match dicOf G v with
    | some l => mkD z l G
    | none => .bad)
  | _ => .bad
def bListD (z : Bool) : F1 := fun vs G => match vs with
  | [v] => (match dicOf G v with
    | some l => mkL z (l.map fun q => keyV q.1) G
    | none => .bad)
  | _ => .bad
def bSortD : F1 := fun vs G => match vs with
  | [v] => (match (dicOf G v).bind intKeys with
    | some l => if l.length < 64 then .ok (.fro ((sortI l).map .int)) G else .bad
    | none => .bad)
  | _ => .bad
section
variable {K : PySem.W.Frag} {E : XK} {ι : Vw} {n : Nat} {H : Hp}
theorem keys_rep : ∀ {l : List (Ky × Val)} {xs : List (Key × V)}, KReps K ι n H l xs → Reps K ι n H (l.map fun q => keyV q.1) (xs.map fun kv => kV kv.1)
  | [], _, h => by rw [show _ = [] from h]; exact rfl
  | q :: l, _, ⟨y, ys, h1, h2, h3⟩ => by
    rw [h1]
    refine ⟨kV (kyOf q.1), ys.map fun kv => kV kv.1, rfl, ?_, keys_rep h3⟩
    show Rep K ι n H (keyV q.1) (kV (kyOf q.1))
    cases q.1 <;> exact rfl
theorem intKeys_ok : ∀ {l : List (Ky × Val)} {ks : List Int} {xs : List (Key × V)}, intKeys l = some ks → KReps K ι n H l xs → xs.map (·.1) = ks.map Sum.inl
  | [], ks, xs, h, r => by
    cases h
    rw [show xs = [] from r]
    rfl
  | (.inl i, v) :: l, ks, xs, h, ⟨y, ys, h1, h2, h3⟩ => by
    have h0 : (intKeys l).map (i :: ·) = some ks := h
    cases e : intKeys l with
    | none => rw [e] at h0; cases h0
    | some ms =>
      rw [e] at h0
      cases h0
      rw [h1, List.map_cons, List.map_cons, intKeys_ok e h3]
      rfl
  | (.inr _, _) :: _, _, _, h, _ => by cases h
/-- one argument, a dict -/
theorem one_dic {G : Store} {vs : List Val} {xs : List V} {β : Type} {g : List (Ky × Val) → Option β} {k : β → Store → Res Val} {f : F1} {Q : VK} (hf : ∀ vs G, f vs G = match vs with | [v] => (match (dicOf G v).bind g with | some l => k l G | none => .bad) | _ => .bad) (S : Sim K ι G H) (rs : Reps K ι G.length H vs xs)
    (p : Post K E ι G.length H (f vs G) (fun ι' G' H' w => ∀ z, Rep K ι' G'.length H' w z → Q z H')) : ∃ a ys l b, xs = [.ref a] ∧ Rd H a (.dK ys) ∧ KReps K ι G.length H l ys ∧ g l = some b ∧ Post K E ι G.length H (k b G) (fun ι' G' H' w => ∀ z, Rep K ι' G'.length H' w z → Q z H') := by
  rw [hf] at p
  cases vs with
  | nil => exact p.elim
  | cons v l =>
    cases l with
    | cons _ _ => exact p.elim
    | nil =>
      dsimp only at p
      cases e : dicOf G v with
      | none => rw [e] at p; exact p.elim
      | some l =>
        rw [e] at p
        dsimp only [Option.bind] at p
        cases e2 : g l with
        | none => rw [e2] at p; exact p.elim
        | some b =>
          rw [e2] at p
          obtain ⟨x, rfl, rx⟩ := reps1 rs
          obtain ⟨a, ys, ex, h1, h2⟩ := dicOf_at S rx e
          exact ⟨a, ys, l, b, by rw [ex], h1, h2, e2, p⟩
theorem KReps.to {ι' : Vw} {n' : Nat} {H' : Hp} {l : List (Ky × Val)} {xs : List (Key × V)} (h : KReps K ι n H l xs) (e : Ext K ι n H ι' n' H') : KReps K ι' n' H' l xs := h.ext e
theorem s_dict {z : Bool} : CallS K E (fun xs H Q => ∃ a kvs, xs = [.ref a] ∧ Rd H a (.dK kvs) ∧ ∀ p, H p = none → Q (.ref p) (L2.upd H p (.dK kvs))) (bDict z) := fun ι G H vs xs Q S rs p => by
  obtain ⟨a, ys, l, b, e, h1, h2, h3, p2⟩ := one_dic (g := some) (k := fun l G => mkD z l G) (f := bDict z) (fun vs G => by
    unfold bDict
    rcases vs with _ | ⟨v, _ | ⟨w, l⟩⟩
    · rfl
    · simp only [bind_some]
      cases dicOf G v <;> rfl
    · rfl) S rs p
  cases h3
  exact ⟨a, ys, e, h1, post_mkD S h2 p2⟩
theorem s_listD {z : Bool} : CallS K E (fun xs H Q => ∃ a kvs, xs = [.ref a] ∧ Rd H a (.dK kvs) ∧ ∀ p, H p = none → Q (.ref p) (L2.upd H p (.lst (kvs.map fun kv => kV kv.1)))) (bListD z) := fun ι G H vs xs Q S rs p => by
  obtain ⟨a, ys, l, b, e, h1, h2, h3, p2⟩ := one_dic (g := some) (k := fun l G => mkL z (l.map fun q => keyV q.1) G) (f := bListD z) (fun vs G => by
    unfold bListD
    rcases vs with _ | ⟨v, _ | ⟨w, l⟩⟩
    · rfl
    · simp only [bind_some]
      cases dicOf G v <;> rfl
    · rfl) S rs p
  cases h3
  exact ⟨a, ys, e, h1, post_mkL S (keys_rep h2) p2⟩
theorem s_sortD : CallS K E (fun xs H Q => ∃ a kvs ks, xs = [.ref a] ∧ Rd H a (.dK kvs) ∧ kvs.map (·.1) = ks.map Sum.inl ∧ ks.length < 64 ∧ ∀ (ys : List Int) (p : Addr), ys.Perm ks → ys.Pairwise (· ≤ ·) → H p = none → Q (.ref p) (L2.upd H p (.lst (ys.map V.int)))) bSortD := fun ι G H vs xs Q S rs p => by
  obtain ⟨a, ys, l, ks, e, h1, h2, h3, p2⟩ := one_dic (g := intKeys) (k := fun l G => if l.length < 64 then .ok (.fro ((sortI l).map .int)) G else .bad) (f := bSortD) (fun vs G => by
    unfold bSortD
    rcases vs with _ | ⟨v, _ | ⟨w, l⟩⟩
    · rfl
    · dsimp only
      cases (dicOf G v).bind intKeys <;> rfl
    · rfl) S rs p
  by_cases hl : ks.length < 64
  · rw [if_pos hl] at p2
    refine ⟨a, ys, ks, e, h1, intKeys_ok h3 h2, hl, fun ns q hp hs hq => ?_⟩
    rw [sortI_uniq hp hs]
    exact post_fro S (ints_reps _) p2 q hq
  · rw [if_neg hl] at p2
    exact p2.elim
end
/-- list(x), sorted(x): of a list or of a dict -/
def bListA (z : Bool) : F1 := orF1 (bList z) (bListD z)
def bSortA : F1 := orF1 bSortL bSortD
end R1

/-! R1m: equality of dicts with flat values; list.count, list.index. -/
namespace R1
open PySem PySem.Spec PyProof.Rows L2
/-- a dict's values as data -/
def dataD (G : Store) : List (Ky × Val) → Option (List (Ky × PyData))
  | [] => some []
  | (k, v) :: l => match toD G dEq v, dataD G l with
    | some d, some r => if d.canLay0 = true then some ((k, d) :: r) else none
    | _, _ => none
def lookD (l : List (Ky × PyData)) (k : Ky) : Option PyData := (l.find? fun kv => decide (kv.1 = k)).map (·.2)
/-- the dicts hold equal values -/
def sameD (l m : List (Ky × PyData)) : Bool := l.length == m.length && l.all fun q => match lookD m q.1 with
  | some e => PyData.eqv q.2 e
  | none => false
def fEqD (neg : Bool) : F2 := fun v u G => match (dicOf G v).bind (dataD G), (dicOf G u).bind (dataD G) with
  | some l, some m => .ok (.bl (neg != sameD l m)) G
  | _, _ => .bad
/-- the pairs on the heap -/
def KDp (K : PySem.W.Frag) (H : Hp) : List (Key × V) → List (Key × PyData) → Prop
  | [], ds => ds = []
  | (k, v) :: r, ds => ∃ d s, ds = (k, d) :: s ∧ Dp K H v d ∧ d.canLay0 = true ∧ d.depth ≤ dEq ∧ KDp K H r s
def lookKD (l : List (Key × PyData)) (k : Key) : Option PyData := (l.find? fun kv => decide (kv.1 = k)).map (·.2)
def sameKD (l m : List (Key × PyData)) : Bool := l.length == m.length && l.all fun q => match lookKD m q.1 with
  | some e => PyData.eqv q.2 e
  | none => false
def rEqDD (K : PySem.W.Frag) (neg : Bool) : R2 := fun x y H Q => ∃ a b ks ls da db, x = .ref a ∧ y = .ref b ∧ Rd H a (.dK ks) ∧ Rd H b (.dK ls) ∧ KDp K H ks da ∧ KDp K H ls db ∧ Q (.bl (neg != sameKD da db)) H
section
variable {X : Cx} {pins : List (Addr × Obj)} {σ : L2.St} {H : Hp} {s : Shared}
theorem kdp_len : ∀ {ks : List (Key × V)} {da : List (Key × PyData)}, KDp X.K H ks da → da.length = ks.length
  | [], _, h => by rw [show _ = [] from h]; rfl
  | (_, _) :: _, _, ⟨d, s, e, _, _, _, h⟩ => by rw [e]; exact congrArg Nat.succ (kdp_len h)
theorem kdp_look {k : Key} : ∀ {ls : List (Key × V)} {db : List (Key × PyData)}, KDp X.K H ls db → (valV ls k = none → lookKD db k = none) ∧ ∀ y, valV ls k = some y → ∃ e, lookKD db k = some e ∧ Dp X.K H y e ∧ e.canLay0 = true ∧ e.depth ≤ dEq
  | [], _, h => by
    rw [show _ = [] from h]
    exact ⟨fun _ => rfl, fun y e => (by cases e)⟩
  | (k0, v) :: r, _, ⟨d, s, e, h1, h2, h3, h4⟩ => by
    rw [e]
    have ih := kdp_look (k := k) h4
    unfold valV lookKD at *
    rw [List.find?_cons, List.find?_cons]
    show (Option.map (·.2) (match decide (k0 = k) with | true => some (k0, v) | false => r.find? _) = none → Option.map (·.2) (match decide (k0 = k) with | true => some (k0, d) | false => s.find? _) = none) ∧ _
    cases decide (k0 = k) with
    | true => exact ⟨fun e => (by cases e), fun y e => (by cases e; exact ⟨d, rfl, h1, h2, h3⟩)⟩
    | false => exact ih
theorem kdp_hits (hu : X.A.units + 64 < cLine) (I : L2.Inv X pins σ H s) {ls : List (Key × V)} {db : List (Key × PyData)} {vb : List (Key × Value)} (hb : KDp X.K H ls db) (rb : KV ls vb) : ∀ {ks : List (Key × V)} {da : List (Key × PyData)} {va : List (Key × Value)}, KDp X.K H ks da → KV ks va →
    PySem.W.KeqHits X.A.in1 s vb va (da.all fun q => match lookKD db q.1 with | some e => PyData.eqv q.2 e | none => false)
  | [], da, va, h, r => by
    rw [show da = [] from h]
    cases r
    exact .nil
  | (k, v) :: ks, da, va, ⟨d, ds, e, h1, h2, h3, h4⟩, r => by
    cases r with
    | cons r1 r2 =>
      rename_i w ws
      obtain ⟨k', w⟩ := w
      obtain ⟨ek, rv⟩ := r1
      dsimp only at ek rv
      subst ek
      rw [e, List.all_cons]
      have l := kdp_look (k := k) hb
      have q := rb.val k
      dsimp only
      cases e2 : valV ls k with
      | none =>
        rw [e2] at q
        rw [l.1 e2, Bool.false_and]
        refine .miss ?_
        cases e3 : valueAt vb k with
        | none => rfl
        | some z => rw [e3] at q; exact absurd q (by intro h; cases h)
      | some y =>
        rw [e2] at q
        obtain ⟨e, e4, g1, g2, g3⟩ := l.2 y e2
        rw [e4]
        cases e3 : valueAt vb k with
        | none => rw [e3] at q; exact absurd q (by intro h; cases h)
        | some z =>
          rw [e3] at q
          have rz : RelV y z := by first | exact q | (cases q; assumption)
          obtain ⟨as, ra⟩ := Dp.reads I d v w h1 rv
          obtain ⟨bs, rb'⟩ := Dp.reads I e y z g1 rz
          have h3' : d.depth ≤ 40 := h3
          have hm : min d.depth e.depth ≤ d.depth := Nat.min_le_left _ _
          exact .hit e3 (SeqAt.eqAt_reads _ _ _ _ _ _ _ _ ra rb' h2 g2 (by show X.A.units + 1 + _ < _; omega)) (kdp_hits hu I hb rb h4 r2)
theorem rd_dic {a : Addr} {ks : List (Key × V)} (I : L2.Inv X pins σ H s) (h : Rd H a (.dK ks)) : (a == sysModules) = false ∧ ∃ vs, KV ks vs ∧ Heap.DictOf (mixKind X.prog X.w) s.heap a vs := by
  rcases h with h | ⟨o, h⟩
  · have q := I.hok a _ h
    simp only [ObjOk] at q
    exact ⟨q.2.1, q.2.2⟩
  · have q := I.hok a _ h
    simp only [ObjOk] at q
    exact ⟨q.2.2.1, q.2.2.2⟩
theorem op_eqDD (hu : X.A.units + 64 < cLine) : OpR X (compareOp .Eq) (rEqDD X.K false) := by
  intro pins s σ H x y v u Q I rx ry ⟨a, b, ks, ls, da, db, ex, ey, h1, h2, h3, h4, q⟩
  subst ex
  subst ey
  rw [show v = .ref a from rx, show u = .ref b from ry]
  obtain ⟨ya, va, ra, ga⟩ := rd_dic I h1
  obtain ⟨yb, vb, rb, gb⟩ := rd_dic I h2
  refine PySem.W.keq_eq ya yb ga gb (by omega) (fun _ => kdp_hits hu I h4 rb h3 ra) (fin_bl I q ?_)
  unfold sameKD
  rw [kdp_len h3, kdp_len h4, ra.length, rb.length, Bool.false_bne]
theorem op_neDD (hu : X.A.units + 64 < cLine) : OpR X (compareOp .NotEq) (rEqDD X.K true) := by
  intro pins s σ H x y v u Q I rx ry ⟨a, b, ks, ls, da, db, ex, ey, h1, h2, h3, h4, q⟩
  subst ex
  subst ey
  rw [show v = .ref a from rx, show u = .ref b from ry]
  obtain ⟨ya, va, ra, ga⟩ := rd_dic I h1
  obtain ⟨yb, vb, rb, gb⟩ := rd_dic I h2
  refine PySem.W.keq_ne ya yb ga gb (by omega) (fun _ => kdp_hits hu I h4 rb h3 ra) (fin_bl I q ?_)
  unfold sameKD
  rw [kdp_len h3, kdp_len h4, ra.length, rb.length, Bool.true_bne]
end
section
variable {K : PySem.W.Frag} {E : XK} {ι : Vw} {n : Nat} {G : Store} {H : Hp}
theorem kdp_of (S : Sim K ι G H) : ∀ {l : List (Ky × Val)} {xs : List (Key × V)} {dl : List (Ky × PyData)}, KReps K ι G.length H l xs → dataD G l = some dl → KDp K H xs (dl.map fun q => (kyOf q.1, q.2))
  | [], xs, dl, r, h => by
    cases h
    rw [show xs = [] from r]
    exact rfl
  | (k, v) :: l, xs, dl, ⟨y, ys, e, r1, r2⟩, h => by
    unfold dataD at h
    cases e1 : toD G dEq v with
    | none => rw [e1] at h; cases h
    | some d =>
      cases e2 : dataD G l with
      | none => rw [e1, e2] at h; cases h
      | some r =>
        rw [e1, e2] at h
        dsimp only at h
        by_cases c : d.canLay0 = true
        · rw [if_pos c] at h
          cases h
          rw [e]
          exact ⟨d, _, rfl, dp_of S _ v y d r1 e1, c, (toD_ok _ v d e1).2, kdp_of S r2 e2⟩
        · rw [if_neg c] at h
          cases h
theorem lookKD_map (k : Ky) : ∀ l : List (Ky × PyData), lookKD (l.map fun q => (kyOf q.1, q.2)) (kyOf k) = lookD l k
  | [] => rfl
  | q :: l => by
    have ih := lookKD_map k l
    unfold lookKD lookD at *
    rw [List.map_cons, List.find?_cons, List.find?_cons]
    show Option.map (·.2) (match decide (kyOf q.1 = kyOf k) with | true => some (kyOf q.1, q.2) | false => _) = Option.map (·.2) (match decide (q.1 = k) with | true => some q | false => _)
    rw [kyOf_dec]
    cases decide (q.1 = k) with
    | true => rfl
    | false => exact ih
theorem sameKD_map (l m : List (Ky × PyData)) : sameKD (l.map fun q => (kyOf q.1, q.2)) (m.map fun q => (kyOf q.1, q.2)) = sameD l m := by
  unfold sameKD sameD
  rw [List.length_map, List.length_map, List.all_map]
  congr 2
  funext q
  show (match lookKD _ (kyOf q.1) with | some e => PyData.eqv q.2 e | none => false) = _
  rw [lookKD_map]
theorem s_eqDD {neg : Bool} : OpS K E (rEqDD K neg) (fEqD neg) := by
  intro ι G H v u x y Q S rx ry p
  unfold fEqD at p
  cases e1 : dicOf G v with
  | none => rw [e1] at p; exact p.elim
  | some l =>
    cases e2 : dicOf G u with
    | none => rw [e1, e2] at p; dsimp only [Option.bind] at p; cases e3 : dataD G l <;> (rw [e3] at p; exact p.elim)
    | some m =>
      rw [e1, e2] at p
      dsimp only [Option.bind] at p
      cases e3 : dataD G l with
      | none => rw [e3] at p; exact p.elim
      | some dl =>
        cases e4 : dataD G m with
        | none => rw [e3, e4] at p; exact p.elim
        | some dm =>
          rw [e3, e4] at p
          obtain ⟨a, xs, ex, h1, r1⟩ := dicOf_at S rx e1
          obtain ⟨b, ys, ey, h2, r2⟩ := dicOf_at S ry e2
          refine ⟨a, b, xs, ys, _, _, ex, ey, h1, h2, kdp_of S r1 e3, kdp_of S r2 e4, ?_⟩
          rw [sameKD_map]
          exact p.here S _ rfl
end
def fEqA : F2 := orF fEq (fEqD false)
def fNeA : F2 := orF fNe (fEqD true)
section
variable {X : Cx} {E : XK} {a b o e : Expr} {ma mb mo me : EM} {pos apos cpos : Pos}
theorem re_eqA (hu : X.A.units + 64 < cLine) (ha : RE X E a ma) (hb : RE X E b mb) : RE X E (.Compare a [.Eq] [b] pos) (eOp fEqA ma mb) := re_cmp ((op_eqP hu).or (op_eqDD hu)) (s_eq.or s_eqDD) ha hb (nomark _)
theorem re_neA (hu : X.A.units + 64 < cLine) (ha : RE X E a ma) (hb : RE X E b mb) : RE X E (.Compare a [.NotEq] [b] pos) (eOp fNeA ma mb) := re_cmp ((op_neP hu).or (op_neDD hu)) (s_ne.or s_eqDD) ha hb (nomark _)
theorem rt_eqA (hu : X.A.units + 64 < cLine) (ha : RE X E a ma) (hb : RE X E b mb) : RT X E (.Compare a [.Eq] [b] pos) (eTest (eOp fEqA ma mb)) := rt_cmp ((op_eqP hu).or (op_eqDD hu)) (s_eq.or s_eqDD) ha hb (nomark _)
theorem rt_neA (hu : X.A.units + 64 < cLine) (ha : RE X E a ma) (hb : RE X E b mb) : RT X E (.Compare a [.NotEq] [b] pos) (eTest (eOp fNeA ma mb)) := rt_cmp ((op_neP hu).or (op_neDD hu)) (s_ne.or s_eqDD) ha hb (nomark _)
/-- xs.count(k) over ints -/
def eCount (o m : EM) : EM := fun ρ G => (o ρ G).bind fun v G1 => match itemsL G1 v with
  | none => .bad
  | some _ => (m ρ G1).bind fun u G2 => (match (itemsL G2 v).bind asInts, u with
    | some ns, .int k => .ok (.int (List.count k ns)) G2
    | _, _ => .bad)
theorem re_count (ho : RE X E o mo) (he : RE X E e me) (h1 : attributeBase o "count" X.env (eval o X.env) = eval o X.env := by rfl)
    (h2 : (((((backTo cpos (starEach [e] X.env)).all fun x => !x.fst) && (backToKw cpos (keywordEach [] X.env)).all fun x => x.fst.isSome) && decide (([e].length + ([] : List Keyword).length + if ([] : List Keyword).isEmpty = true then 0 else 1) < 30)) = true) := by rfl)
    (h3 : (apos.endLine == cpos.line) = true := by rfl) (h4 : starEach [e] X.env = (false, eval e X.env) :: starEach [] X.env := by rfl) (h5 : ((backTo cpos (starEach [] X.env)).any fun x => x.fst) = false := by rfl) :
    RE X E (.Call (.Attribute o "count" apos) [e] [] cpos) (eCount mo me) := by
  refine pe_weak (pe_bm (name := "count") PySem.F.plainAttrs_list PySem.F.slot_list_count PySem.F.type_list_count mt_lcount ho (pa_cons he pa_nil h4) h1 h2 h3 h4 h5) fun σ H Q ⟨ι, G, ρ, S, sl, q⟩ => run1 S sl ((Post.bind q).mono fun ι1 G1 H1 v x1 S1 q1 x rx => ?_)
  cases e1 : itemsL G1 v with
  | none => rw [e1] at q1; exact q1.elim
  | some l =>
    rw [e1] at q1
    obtain ⟨p0, xs0, ex, g1, g2⟩ := itemsL_at S1 rx e1
    subst ex
    refine ⟨.inl ⟨rfl, _, g1⟩, run1 S1 (sl.ext x1) ((Post.bind q1).mono fun ι2 G2 H2 u x2 S2 q2 y ry => ?_)⟩
    cases e2 : itemsL G2 v with
    | none => simp only [e2] at q2; exact q2.elim
    | some l2 =>
      cases e3 : asInts l2 with
      | none => simp only [e2, Option.bind, e3] at q2; exact q2.elim
      | some ns =>
        simp only [e2, Option.bind, e3] at q2
        cases u with
        | int k =>
          obtain ⟨p1, xs1, ex1, f1, f2⟩ := itemsL_at S2 (rx.ext x2) e2
          have ey := reps_ints e3 f2
          subst ey
          exact ⟨p1, ns, k, ex1, by rw [show y = V.int k from ry], f1, q2.here S2 _ rfl⟩
        | _ => exact q2.elim
end
end R1

/-! R1n: defs with defaults. -/
namespace R1
open PySem PySem.Spec PyProof.Rows L2
section
variable {fa : List He.Fa} {fn : List He.DefD} {fx : List (PySem.W.Frag → Bool)} {P : Program} {w : World} {K : PySem.W.Frag} {mg : Str → Option Value} {base : Heap} {params : Arguments} {body : List Stmt} {scope : Scope} {N ps : List Str} {k : Nat} {b : SM}
/-- how n arguments meet the parameters, the defaults behind the first jj too -/
abbrev BindD (x qual : Str) (params : Arguments) (body : List Stmt) (scope : Scope) (ps : List Str) (n m jj : Nat) : Prop := ∀ (T : Addr) (kV doc pm : Value) (an : Option Addr) (cdv ct : Value) (us its : List Value), us.length = n → its.length = m →
  ∃ k, bindArgs (PySem.W.fnOf x qual params body scope (Value.ref T) kV doc pm an cdv ct) { pos := us } = seqItems? (Value.ref T) >>= k ∧ k (some its.toArray) = pure (ps.zip (us ++ List.drop jj its))
theorem cf1 {mm : F1} (hmm : Wk ps.length mm (runDef N.length ps.length b)) (T : Txt fa fn fx ts w K mg) (i j l c n jj : Nat) {q : Str} {dfl : List He.Dv} (dv : List Val) (ok : ClsOk K c) (S : FnScope N ps scope) (hb : ∀ f, Body0 P w K mg base N q body scope f k b) (hd : dfl ≠ []) (hn : n + (dfl.length - jj) = ps.length) (hv : ∀ K, (dfl.map (He.Dv.v K)).drop jj = dv.map pv1) (hp : dv.all plain1 = true)
    (B : BindD "__init__" q params body scope ps n dfl.length jj) (hi : fn[i]? = some ⟨(cname c, some "__init__"), "__init__", q, params, body, scope, dfl, []⟩ := by rfl) (hj : fa[j]? = some (.mkr (cname c)) := by rfl) (hl : fa[l]? = some (.glo (cname c)) := by rfl) :
    CF P w K mg base CX0 (k + 1) c ps.length mm dv := by
  obtain ⟨fd, F⟩ := T.says.def_ i hi
  have hdv : He.DefD.dvs K ⟨(cname c, some "__init__"), "__init__", q, params, body, scope, dfl, []⟩ = dfl.map (He.Dv.v K) := rfl
  rw [hdv] at F
  obtain ⟨ds, h1, h2⟩ := F.binds1 n jj (by simpa using hd) (by simpa using hn) (by simpa using B)
  rw [hv] at h1
  exact ⟨ok, T.glo l hl, _, fd, ps, ds, He.mkr_ok (T.says.fact j hj), fn_ok0 hmm F S (hb _), h2, hp, h1⟩
theorem gf1 {mm : F1} (hmm : Wk ps.length mm (runDef N.length ps.length b)) (T : Txt fa fn fx ts w K mg) (i j n jj : Nat) {x : Str} {dfl : List He.Dv} (dv : List Val) (S : FnScope N ps scope) (hb : ∀ f, Body0 P w K mg base N x body scope f k b) (hd : dfl ≠ []) (hn : n + (dfl.length - jj) = ps.length) (hv : ∀ K, (dfl.map (He.Dv.v K)).drop jj = dv.map pv1) (hp : dv.all plain1 = true)
    (B : BindD x x params body scope ps n dfl.length jj) (hi : fn[i]? = some ⟨(x, none), x, x, params, body, scope, dfl, []⟩ := by rfl) (hj : fa[j]? = some (.glo x) := by rfl) :
    GF P w K mg base CX0 (k + 1) x ps.length mm dv := by
  obtain ⟨fd, F⟩ := T.says.def_ i hi
  have hdv : He.DefD.dvs K ⟨(x, none), x, x, params, body, scope, dfl, []⟩ = dfl.map (He.Dv.v K) := rfl
  rw [hdv] at F
  obtain ⟨ds, h1, h2⟩ := F.binds1 n jj (by simpa using hd) (by simpa using hn) (by simpa using B)
  rw [hv] at h1
  exact ⟨_, fd, ps, ds, T.glo j hj, F.kp, fn_ok0 hmm F S (hb _), h2, hp, h1⟩
end
end R1

/-! R1o: a, b = a list. -/
namespace R1
open PySem PySem.Spec PyProof.Rows L2
theorem setAll_len : ∀ {is : List Nat} {vs : List Val} {ρ ρ' : Env1}, setAll is vs ρ = some ρ' → vs.length = is.length
  | [], [], _, _, _ => rfl
  | [], _ :: _, _, _, h => by cases h
  | _ :: _, [], _, _, h => by cases h
  | i :: is, v :: vs, ρ, ρ', h => congrArg Nat.succ (setAll_len (is := is) h)
/-- a, b = e, e a list -/
def sUnl (l : List Nat) (m : EM) : SM := fun ρ G => (m ρ G).toS fun v G1 => match (itemsL G1 v).bind fun vs => setAll l vs ρ with
  | some ρ' => .next ρ' G1
  | none => .bad
section
variable {X : Cx} {E : XK} {pos tpos : Pos} {e : Expr} {es : List Expr} {me : EM} {l : List Nat} {kk : Nat}
theorem rs_unl (hc : X.calm = true) (he : RE X E e me) (h : RGs X es l) (hn : (assignEach es X.env).length = l.length := by rfl) (hst : (assignEach es X.env).findIdx? (·.1) = none := by rfl)
    (hs : swapsWithSole [.Tuple es kk tpos] e pos.line X.env = pure false := by rfl) (hw : swappedStores [.Tuple es kk tpos] e X.env = pure none := by rfl) (h1 : (assignEach [.Tuple es kk tpos] X.env).map (·.2) = [assign (.Tuple es kk tpos) X.env] := by rfl) : RS X E (.Assign [.Tuple es kk tpos] e pos) (sUnl l me) := by
  refine ps_weak (ps_asg he (pg_unl hc h hn hst) hs hw h1) fun D σ H ⟨ι, G, ρ, S, sl, q⟩ => run1 S sl (q.ofRes.mono fun ι1 G1 H1 v x1 S1 p1 x rx => ?_)
  cases e1 : itemsL G1 v with
  | none => rw [e1] at p1; exact p1.elim
  | some vs =>
    rw [e1] at p1
    dsimp only [Option.bind] at p1
    cases e2 : setAll l vs ρ with
    | none => rw [e2] at p1; exact p1.elim
    | some ρ' =>
      rw [e2] at p1
      obtain ⟨a, xs, ex, h3, h4⟩ := itemsL_at S1 rx e1
      exact ⟨a, xs, ex, h3, by rw [h4.length]; exact setAll_len e2, ι1, G1, vs, ρ, ρ', S1, h4, sl.ext x1, e2, fun σ' a _ _ => p1 ι1 H1 σ' .refl S1 a⟩
def tupOf (G : Store) (v : Val) : Option (List Val) := match v with
  | .tup l => some l
  | v => lstOf G v
/-- of a tuple or of a list -/
def sUnA (l : List Nat) (m : EM) : SM := fun ρ G => (m ρ G).toS fun v G1 => match (tupOf G1 v).bind fun vs => setAll l vs ρ with
  | some ρ' => .next ρ' G1
  | none => .bad
theorem rs_unA (hc : X.calm = true) (he : RE X E e me) (h : RGs X es l) (hn : (assignEach es X.env).length = l.length := by rfl) (hst : (assignEach es X.env).findIdx? (·.1) = none := by rfl)
    (hs : swapsWithSole [.Tuple es kk tpos] e pos.line X.env = pure false := by rfl) (hw : swappedStores [.Tuple es kk tpos] e X.env = pure none := by rfl) (h1 : (assignEach [.Tuple es kk tpos] X.env).map (·.2) = [assign (.Tuple es kk tpos) X.env] := by rfl) : RS X E (.Assign [.Tuple es kk tpos] e pos) (sUnA l me) :=
  rs_sel (rs_unl hc he h hn hst hs hw h1) (rs_un he (rg_tup hc h hn hst) hs hw h1) fun ρ G => by
    unfold sUnA sUnl sUn
    cases me ρ G with
    | ok v G1 =>
      simp only [Res.toS]
      cases v with
      | tup l' => exact .inr rfl
      | fro l' => exact .inl rfl
      | obj i => exact .inl rfl
      | _ => exact .inl rfl
    | _ => exact .inl rfl
end
end R1

/-! R1p: list(range(n)). -/
namespace R1
open PySem PySem.Spec PyProof.Rows L2
def eListR (z : Bool) (m : EM) : EM := fun ρ G => (m ρ G).bind fun v G1 => match v with
  | .int j => if inLine j = true ∧ j.toNat ≤ 2 ^ 24 then mkL z (rangeL 0 j.toNat) G1 else .bad
  | _ => .bad
section
variable {K : PySem.W.Frag} {ι : Vw} {n : Nat} {H : Hp}
theorem rangeL_reps (lo : Int) (m : Nat) : Reps K ι n H (rangeL lo m) ((List.range m).map fun i => V.int (lo + (i : Nat))) := by
  have e1 : rangeL lo m = ((List.range m).map fun (j : Nat) => lo + (j : Int)).map Val.int := by
    unfold rangeL
    rw [List.map_map]
    rfl
  have e2 : ((List.range m).map fun i => V.int (lo + (i : Nat))) = ((List.range m).map fun (j : Nat) => lo + (j : Int)).map V.int := by
    rw [List.map_map]
    rfl
  rw [e1, e2]
  exact ints_reps _
end
section
variable {X : Cx} {E : XK} {a : Expr} {ma : EM} {p pr pos pos' : Pos}
theorem re_listR {z : Bool} (hc : X.calm = true) (hgl : Gl X "list") (hml : X.mg "list" = none) (hg : Gl X "range") (hm : X.mg "range" = none) (ha : RE X E a ma)
    (hs : starEach [a] X.env = [(false, eval a X.env)] := by rfl) (hs2 : starEach [.Call (.Name "range" pr) [a] [] pos'] X.env = (false, eval (.Call (.Name "range" pr) [a] [] pos') X.env) :: starEach [] X.env := by rfl) :
    RE X E (.Call (.Name "list" p) [.Call (.Name "range" pr) [a] [] pos'] [] pos) (eListR z ma) := by
  refine pe_weak (pe_listRg hc hgl hml (prg_1 hg hm ha hs) hs2) fun σ H Q ⟨ι, G, ρ, S, sl, q⟩ => run1 S sl ((Post.bind q).mono fun ι1 G1 H1 v x1 S1 q1 x rx => ?_)
  cases v with
  | int j =>
    dsimp only at q1
    by_cases c : inLine j = true ∧ j.toNat ≤ 2 ^ 24
    · rw [if_pos c] at q1
      obtain ⟨c1, c2⟩ := Bool.and_eq_true_iff.mp c.1
      have d1 := of_decide_eq_true c1
      have d2 := of_decide_eq_true c2
      refine ⟨j, rx, ⟨by decide, by decide, d1, d2, by rw [Int.sub_zero]; exact c.2⟩, ?_⟩
      unfold rgV
      rw [Int.sub_zero]
      exact post_mkL S1 (rangeL_reps 0 j.toNat) q1
    · rw [if_neg c] at q1
      exact q1.elim
  | _ => exact q1.elim
end
end R1

/-! R1q: the rules of comprehensions whose list is never changed. -/
namespace R1
open PySem PySem.Spec PyProof.Rows L2
def eLcFL (z : Bool) (m : EM) (p : Pt) (tt : TM) (te : EM) (own : List Nat) : EM := fun ρ G => (m ρ G).bind fun v G1 => match v with
  | .fro l => if l.length ≤ sizeLine then froR z (lcF p tt te (wipe1 ρ own) l G1) else .bad
  | .obj i => (match G1[i]? with
    | some (.lst l) => if l.length ≤ sizeLine then froR z (lcFob p tt te (wipe1 ρ own) i l 0 G1) else .bad
    | _ => .bad)
  | _ => .bad
def eLcFT (z : Bool) (m : EM) (p : Pt) (tt : TM) (te : EM) (own : List Nat) : EM := fun ρ G => (m ρ G).bind fun v G1 => match v with
  | .tup l => if l.length ≤ sizeLine then froR z (lcF p tt te (wipe1 ρ own) l G1) else .bad
  | _ => .bad
section
variable {X : Cx} {E : XK} {tg iter elt : Expr} {ifs : List Expr} {scope : Scope} {own : List (Str × Nat)} {mi te : EM} {tt : TM} {p : Pt} {pos : Pos} {z : Bool}
theorem lcFL_w {K : PySem.W.Frag} {own : List Nat} (ho : ∀ i ∈ p.slots, i ∈ own) : ∀ σ H Q, tE K E (eLcFL z mi p tt te own) σ H Q → tLc (iList K (tE K E mi)) (tG K p) (tT K E tt) (tE K E te) own σ H Q := fun σ H Q ⟨ι, G, ρ, S, sl, q⟩ => run2 S sl ((Post.bind q).mono fun ι1 G1 H1 v x1 S1 q1 x rx => by
  cases v with
  | fro l =>
    dsimp only at q1
    by_cases hz : l.length ≤ sizeLine
    · rw [if_pos hz] at q1
      obtain ⟨a, xs, ex, h1, h2⟩ := rx
      exact ⟨a, ex, ⟨xs, h1.l⟩, lcF_w ho hz (itf_w h1 h2).1 (itf_w h1 h2).2 S1 (sl.ext x1) q1⟩
    · rw [if_neg hz] at q1
      exact q1.elim
  | obj i =>
    cases e : G1[i]? with
    | none => simp only [e] at q1; exact q1.elim
    | some o =>
      simp only [e] at q1
      cases o with
      | lst l =>
        dsimp only at q1
        by_cases hz : l.length ≤ sizeLine
        · rw [if_pos hz] at q1
          obtain ⟨xs, h1, h2⟩ := S1.lst e
          exact ⟨ι1 i, rx.2, ⟨xs, .of h1⟩, lcFob_w ho hz rx.1 S1 (sl.ext x1) q1⟩
        · rw [if_neg hz] at q1
          exact q1.elim
      | _ => exact q1.elim
  | _ => exact q1.elim)
theorem lcFT_w {K : PySem.W.Frag} {own : List Nat} (ho : ∀ i ∈ p.slots, i ∈ own) : ∀ σ H Q, tE K E (eLcFT z mi p tt te own) σ H Q → tLc (iTup K (tE K E mi)) (tG K p) (tT K E tt) (tE K E te) own σ H Q := fun σ H Q ⟨ι, G, ρ, S, sl, q⟩ => run2 S sl ((Post.bind q).mono fun ι1 G1 H1 v x1 S1 q1 x rx => by
  cases v with
  | tup l =>
    dsimp only at q1
    by_cases hz : l.length ≤ sizeLine
    · rw [if_pos hz] at q1
      obtain ⟨a, xs, ex, h1, h2⟩ := rx
      exact ⟨a, ex, ⟨xs, h1⟩, lcF_w ho hz (itt_w h1 h2).1 (itt_w h1 h2).2 S1 (sl.ext x1) q1⟩
    · rw [if_neg hz] at q1
      exact q1.elim
  | _ => exact q1.elim)
theorem lcFR1_w {K : PySem.W.Frag} {ma : AM} {own : List Nat} (ho : ∀ i ∈ p.slots, i ∈ own) : ∀ σ H Q, tE K E (eLcFR z rng1 ma p tt te own) σ H Q → tLc (iRng1 (tA K E ma)) (tG K p) (tT K E tt) (tE K E te) own σ H Q := fun σ H Q ⟨ι, G, ρ, S, sl, q⟩ => ⟨ι, G, ρ, S, sl, (Post.bind q).mono fun ι1 G1 H1 vs x1 S1 q1 xs rxs => by
  cases e : rng1 vs with
  | none => rw [e] at q1; exact q1.elim
  | some l =>
    rw [e] at q1
    dsimp only at q1
    by_cases hz : l.length ≤ sizeLine
    · rw [if_pos hz] at q1
      obtain ⟨j, e1, h1, h2, rfl⟩ := rng1_inv rxs e
      exact ⟨j, e1, h1, h2, lcF_w ho hz itr_w.1 itr_w.2 S1 (sl.ext x1) q1⟩
    · rw [if_neg hz] at q1
      exact q1.elim⟩
theorem lcFR2_w {K : PySem.W.Frag} {ma : AM} {own : List Nat} (ho : ∀ i ∈ p.slots, i ∈ own) : ∀ σ H Q, tE K E (eLcFR z rng2 ma p tt te own) σ H Q → tLc (iRng2 (tA K E ma)) (tG K p) (tT K E tt) (tE K E te) own σ H Q := fun σ H Q ⟨ι, G, ρ, S, sl, q⟩ => ⟨ι, G, ρ, S, sl, (Post.bind q).mono fun ι1 G1 H1 vs x1 S1 q1 xs rxs => by
  cases e : rng2 vs with
  | none => rw [e] at q1; exact q1.elim
  | some l =>
    rw [e] at q1
    dsimp only at q1
    by_cases hz : l.length ≤ sizeLine
    · rw [if_pos hz] at q1
      obtain ⟨i, j, e1, h1, rfl⟩ := rng2_inv rxs e
      exact ⟨i, j, e1, h1, lcF_w ho hz itr_w.1 itr_w.2 S1 (sl.ext x1) q1⟩
    · rw [if_neg hz] at q1
      exact q1.elim⟩
theorem lcF_eq (ρ : Env1) (G : Store) (own : List Nat) : eLcF z mi p tt te own ρ G = eLcFL z mi p tt te own ρ G ∨ eLcF z mi p tt te own ρ G = eLcFT z mi p tt te own ρ G := by
  unfold eLcF eLcFL eLcFT
  cases mi ρ G with
  | ok v G1 => cases v <;> first | exact .inl rfl | exact .inr rfl
  | _ => exact .inl rfl
/-- a comprehension's rule from what its walk asks -/
theorem re_lcW {wi : TI} {m : EM} (hc : X.calm = true) (hN : X.N.Nodup) (hi : PI X tg iter wi) (ok : BlkOk X.N X.env.scope scope own)
    (hg : ∀ s H C cl fp, RG (Blk X scope s H C cl fp) tg p) (ht : ∀ s H C cl fp, PTs (Blk X scope s H C cl fp) ifs (tT X.K E tt)) (he : ∀ s H C cl fp, RE (Blk X scope s H C cl fp) E elt te)
    (w : ∀ σ H Q, tE X.K E m σ H Q → tLc wi (tG X.K p) (tT X.K E tt) (tE X.K E te) (own.map (·.2)) σ H Q) (hs : ∀ x, foldedSetIterable iter X.env x = pure x := by intro _; rfl) : RE X E (.ListComp elt [⟨tg, iter, ifs, 0⟩] scope pos) m :=
  pe_weak (pe_lc (g := tG X.K p) (tt := tT X.K E tt) (te := tE X.K E te) hc hN hi ok hg ht he hs) w
theorem re_lcFA (hc : X.calm = true) (hN : X.N.Nodup) (hi : RE X E iter mi) (ok : BlkOk X.N X.env.scope scope own) (ho : ∀ i ∈ p.slots, i ∈ own.map (·.2))
    (hg : ∀ s H C cl fp, RG (Blk X scope s H C cl fp) tg p) (ht : ∀ s H C cl fp, PTs (Blk X scope s H C cl fp) ifs (tT X.K E tt)) (he : ∀ s H C cl fp, RE (Blk X scope s H C cl fp) E elt te)
    (hs : ∀ x, foldedSetIterable iter X.env x = pure x := by intro _; rfl) : RE X E (.ListComp elt [⟨tg, iter, ifs, 0⟩] scope pos) (eLcF z mi p tt te (own.map (·.2))) :=
  re_sel (re_lcW hc hN (pi_list hi) ok hg ht he (lcFL_w ho) hs) (re_lcW hc hN (pi_tup hi) ok hg ht he (lcFT_w ho) hs) fun ρ G => lcF_eq ρ G _
theorem re_lcFR1 {a : Expr} {ma : AM} {pr pos' : Pos} (hc : X.calm = true) (hN : X.N.Nodup) (hgl : Gl X "range") (hm : X.mg "range" = none) (ha : RA X E [a] ma) (ok : BlkOk X.N X.env.scope scope own) (ho : ∀ i ∈ p.slots, i ∈ own.map (·.2))
    (hg : ∀ s H C cl fp, RG (Blk X scope s H C cl fp) tg p) (ht : ∀ s H C cl fp, PTs (Blk X scope s H C cl fp) ifs (tT X.K E tt)) (he : ∀ s H C cl fp, RE (Blk X scope s H C cl fp) E elt te)
    (hs1 : starEach [a] X.env = [(false, eval a X.env)] := by rfl) (hs : ∀ x, foldedSetIterable (.Call (.Name "range" pr) [a] [] pos') X.env x = pure x := by intro _; rfl) :
    RE X E (.ListComp elt [⟨tg, .Call (.Name "range" pr) [a] [] pos', ifs, 0⟩] scope pos) (eLcFR z rng1 ma p tt te (own.map (·.2))) :=
  re_lcW hc hN (pi_range1 hgl hm ha hs1) ok hg ht he (lcFR1_w ho) hs
theorem re_lcFR2 {a c : Expr} {ma : AM} {pr pos' : Pos} (hc : X.calm = true) (hN : X.N.Nodup) (hgl : Gl X "range") (hm : X.mg "range" = none) (ha : RA X E [a, c] ma) (ok : BlkOk X.N X.env.scope scope own) (ho : ∀ i ∈ p.slots, i ∈ own.map (·.2))
    (hg : ∀ s H C cl fp, RG (Blk X scope s H C cl fp) tg p) (ht : ∀ s H C cl fp, PTs (Blk X scope s H C cl fp) ifs (tT X.K E tt)) (he : ∀ s H C cl fp, RE (Blk X scope s H C cl fp) E elt te)
    (hs1 : starEach [a, c] X.env = [(false, eval a X.env), (false, eval c X.env)] := by rfl) (hs2 : starEach [c] X.env = [(false, eval c X.env)] := by rfl) (hs : ∀ x, foldedSetIterable (.Call (.Name "range" pr) [a, c] [] pos') X.env x = pure x := by intro _; rfl) :
    RE X E (.ListComp elt [⟨tg, .Call (.Name "range" pr) [a, c] [] pos', ifs, 0⟩] scope pos) (eLcFR z rng2 ma p tt te (own.map (·.2))) :=
  re_lcW hc hN (pi_range2 hgl hm ha hs1 hs2) ok hg ht he (lcFR2_w ho) hs
theorem rs_setLcFA {i : Nat} {y : Str} {py spos : Pos} (hc : X.calm = true) (hN : X.N.Nodup) (hy : X.N[i]? = some y) (hyl : X.env.scope.names.lookup y = some .local)
    (hsw : swapsWith (.ListComp elt [⟨tg, iter, ifs, 0⟩] scope pos) (some (.Name y py)) spos.line X.env = pure true) (hi : RE X E iter mi) (ok : BlkOk X.N X.env.scope scope own) (ho : ∀ i ∈ p.slots, i ∈ own.map (·.2))
    (hg : ∀ s H C cl fp, RG (Blk X scope s H C cl fp) tg p) (ht : ∀ s H C cl fp, PTs (Blk X scope s H C cl fp) ifs (tT X.K E tt)) (he : ∀ s H C cl fp, RE (Blk X scope s H C cl fp) E elt te)
    (hs : ∀ x, foldedSetIterable iter X.env x = pure x := by intro _; rfl) : RS X E (.Assign [.Name y py] (.ListComp elt [⟨tg, iter, ifs, 0⟩] scope pos) spos) (sSet i (eLcF z mi p tt te (own.map (·.2)))) :=
  rs_sel (rs_setLc hc hN hy hyl hsw (pi_list hi) ok hg ht he (lcFL_w ho) hs) (rs_setLc hc hN hy hyl hsw (pi_tup hi) ok hg ht he (lcFT_w ho) hs) fun ρ G => by
    unfold sSet
    rcases lcF_eq (z := z) (mi := mi) (p := p) (tt := tt) (te := te) ρ G (own.map (·.2)) with e | e
    · exact .inl (by rw [e])
    · exact .inr (by rw [e])
theorem rs_setLcFR1 {i : Nat} {y : Str} {a : Expr} {ma : AM} {py spos pr pos' : Pos} (hc : X.calm = true) (hN : X.N.Nodup) (hy : X.N[i]? = some y) (hyl : X.env.scope.names.lookup y = some .local)
    (hsw : swapsWith (.ListComp elt [⟨tg, .Call (.Name "range" pr) [a] [] pos', ifs, 0⟩] scope pos) (some (.Name y py)) spos.line X.env = pure true) (hgl : Gl X "range") (hm : X.mg "range" = none) (ha : RA X E [a] ma) (ok : BlkOk X.N X.env.scope scope own) (ho : ∀ i ∈ p.slots, i ∈ own.map (·.2))
    (hg : ∀ s H C cl fp, RG (Blk X scope s H C cl fp) tg p) (ht : ∀ s H C cl fp, PTs (Blk X scope s H C cl fp) ifs (tT X.K E tt)) (he : ∀ s H C cl fp, RE (Blk X scope s H C cl fp) E elt te)
    (hs1 : starEach [a] X.env = [(false, eval a X.env)] := by rfl) (hs : ∀ x, foldedSetIterable (.Call (.Name "range" pr) [a] [] pos') X.env x = pure x := by intro _; rfl) :
    RS X E (.Assign [.Name y py] (.ListComp elt [⟨tg, .Call (.Name "range" pr) [a] [] pos', ifs, 0⟩] scope pos) spos) (sSet i (eLcFR z rng1 ma p tt te (own.map (·.2)))) :=
  rs_setLc hc hN hy hyl hsw (pi_range1 hgl hm ha hs1) ok hg ht he (lcFR1_w ho) hs
theorem rs_setLcFR2 {i : Nat} {y : Str} {a c : Expr} {ma : AM} {py spos pr pos' : Pos} (hc : X.calm = true) (hN : X.N.Nodup) (hy : X.N[i]? = some y) (hyl : X.env.scope.names.lookup y = some .local)
    (hsw : swapsWith (.ListComp elt [⟨tg, .Call (.Name "range" pr) [a, c] [] pos', ifs, 0⟩] scope pos) (some (.Name y py)) spos.line X.env = pure true) (hgl : Gl X "range") (hm : X.mg "range" = none) (ha : RA X E [a, c] ma) (ok : BlkOk X.N X.env.scope scope own) (ho : ∀ i ∈ p.slots, i ∈ own.map (·.2))
    (hg : ∀ s H C cl fp, RG (Blk X scope s H C cl fp) tg p) (ht : ∀ s H C cl fp, PTs (Blk X scope s H C cl fp) ifs (tT X.K E tt)) (he : ∀ s H C cl fp, RE (Blk X scope s H C cl fp) E elt te)
    (hs1 : starEach [a, c] X.env = [(false, eval a X.env), (false, eval c X.env)] := by rfl) (hs2 : starEach [c] X.env = [(false, eval c X.env)] := by rfl) (hs : ∀ x, foldedSetIterable (.Call (.Name "range" pr) [a, c] [] pos') X.env x = pure x := by intro _; rfl) :
    RS X E (.Assign [.Name y py] (.ListComp elt [⟨tg, .Call (.Name "range" pr) [a, c] [] pos', ifs, 0⟩] scope pos) spos) (sSet i (eLcFR z rng2 ma p tt te (own.map (·.2)))) :=
  rs_setLc hc hN hy hyl hsw (pi_range2 hgl hm ha hs1 hs2) ok hg ht he (lcFR2_w ho) hs
end
end R1

/-! R1r: constants of the module, a head with facts of one's own. -/
namespace R1
open PySem PySem.Spec PyProof.Rows L2
/-! ### constants of the module -/
mutual
def datB (K : PySem.W.Frag) : Val → Value → Bool
  | .non, .none => true
  | .bl b, .bool c => b == c
  | .int i, .int j _ => decide (i = j)
  | .str k, .str s _ => decide (nm k = s)
  | .tup l, .ref a => (match K.lookup a with
    | some o => (match o.cls, o.data with
      | .type c, .seq its _ => decide (c = "tuple") && decide (its.size ≤ sizeLine) && datL K l its.toList
      | _, _ => false)
    | none => false)
  | _, _ => false
def datL (K : PySem.W.Frag) : List Val → List Value → Bool
  | [], [] => true
  | v :: l, u :: r => datB K v u && datL K l r
  | _, _ => false
end
section
variable {K : PySem.W.Frag} {ι : Vw} {n : Nat} {H : Hp}
mutual
theorem datB_ok : ∀ {v : Val} {u : Value}, datB K v u = true → ∃ x, RelV x u ∧ Rep K ι n H v x
  | .non, u, h => by
    cases u <;> first | cases h | skip
    exact ⟨.non, rfl, rfl⟩
  | .bl b, u, h => by
    cases u <;> first | cases h | skip
    rename_i c
    have e : b = c := by simpa [datB] using h
    subst e
    exact ⟨.bl b, rfl, rfl⟩
  | .int i, u, h => by
    cases u <;> first | cases h | skip
    rename_i j t
    have e : i = j := by simpa [datB] using h
    subst e
    exact ⟨.int i, ⟨t, rfl⟩, rfl⟩
  | .str k, u, h => by
    cases u <;> first | cases h | skip
    rename_i s t
    have e : nm k = s := by simpa [datB] using h
    subst e
    exact ⟨.str (nm k), ⟨t, rfl⟩, rfl⟩
  | .tup l, u, h => by
    cases u with
    | ref a =>
      have h0 : (match K.lookup a with
        | some o => (match o.cls, o.data with
          | .type c, .seq its _ => decide (c = "tuple") && decide (its.size ≤ sizeLine) && datL K l its.toList
          | _, _ => false)
        | none => false) = true := by simpa only [datB] using h
      cases e : K.lookup a with
      | none => rw [e] at h0; cases h0
      | some o =>
        rw [e] at h0
        obtain ⟨c, d, dt, sl⟩ := o
        cases c <;> first | cases h0 | skip
        cases dt <;> first | cases h0 | skip
        rename_i c its m
        have h1 : (decide (c = "tuple") && decide (its.size ≤ sizeLine) && datL K l its.toList) = true := h0
        obtain ⟨h2, h3⟩ := Bool.and_eq_true_iff.mp h1
        obtain ⟨h4, h5⟩ := Bool.and_eq_true_iff.mp h2
        obtain ⟨xs, r1, r2⟩ := datL_ok h3
        have ec : c = "tuple" := of_decide_eq_true h4
        subst ec
        exact ⟨.ref a, rfl, a, xs, rfl, .inr ⟨_, its, m, e, rfl, rfl, of_decide_eq_true h5, r1⟩, r2⟩
    | _ => cases h
  | .fro l, u, h => by cases u <;> cases h
  | .scr l, u, h => by cases u <;> cases h
  | .frd l, u, h => by cases u <;> cases h
  | .obj i, u, h => by cases u <;> cases h
theorem datL_ok : ∀ {l : List Val} {us : List Value}, datL K l us = true → ∃ xs, Vals xs us ∧ Reps K ι n H l xs
  | [], us, h => by
    cases us with
    | nil => exact ⟨[], .nil, rfl⟩
    | cons _ _ => cases h
  | v :: l, us, h => by
    cases us with
    | nil => cases h
    | cons u r =>
      obtain ⟨h1, h2⟩ := Bool.and_eq_true_iff.mp (show (datB K v u && datL K l r) = true from h)
      obtain ⟨x, a1, a2⟩ := datB_ok h1
      obtain ⟨xs, b1, b2⟩ := datL_ok h2
      exact ⟨x :: xs, .cons a1 b1, x, xs, rfl, a2, b2⟩
end
end
theorem relV_inj {x y : V} {u : Value} (h : RelV x u) (k : RelV y u) : x = y := by
  cases x with
  | int i =>
    obtain ⟨t, rfl⟩ := h
    cases y <;> first | (obtain ⟨t', e⟩ := k; cases e <;> rfl) | cases k
  | str i =>
    obtain ⟨t, rfl⟩ := h
    cases y <;> first | (obtain ⟨t', e⟩ := k; cases e <;> rfl) | cases k
  | byt i =>
    obtain ⟨t, rfl⟩ := h
    cases y <;> first | (obtain ⟨t', e⟩ := k; cases e <;> rfl) | cases k
  | flt i =>
    obtain ⟨t, rfl⟩ := h
    cases y <;> first | (obtain ⟨t', e⟩ := k; cases e <;> rfl) | cases k
  | _ =>
    cases h
    cases y <;> first | (obtain ⟨t', e⟩ := k; cases e <;> rfl) | (cases k; rfl) | cases k
/-- the module's name x stands for the data v -/
def conF (x : Str) (v : Val) : PySem.W.Frag → Bool := fun K => match PySem.W.nsIn K mainGlobals x with
  | some (some u) => datB K v u
  | _ => false
section
variable {fa : List He.Fa} {fn : List He.DefD} {fx : List (PySem.W.Frag → Bool)} {ts : List He.Tab} {w : World} {K : PySem.W.Frag} {mg : Str → Option Value}
theorem Txt.con (T : Txt fa fn fx ts w K mg) (i : Nat) {x : Str} {v : Val} (h : fx[i]? = some (conF x v) := by rfl) : ∃ u, mg x = some u ∧ datB K v u = true := by
  have h1 := T.more _ (List.mem_of_getElem? h)
  unfold conF at h1
  cases e : PySem.W.nsIn K mainGlobals x with
  | none => rw [e] at h1; cases h1
  | some o =>
    cases o with
    | none => rw [e] at h1; cases h1
    | some u =>
      rw [e] at h1
      obtain ⟨hp, i1, i2⟩ := T.ns
      exact ⟨u, PySem.W.mg_of i1 i2 e, h1⟩
theorem rgcon {X : Cx} {E : XK} {x : Str} {p : Pos} {v : Val} (T : Txt fa fn fx ts w X.K X.mg) (i : Nat) (hg : Gl X x := by rfl) (h : fx[i]? = some (conF x v) := by rfl) (hd : (x == ("__debug__" : Str)) = false := by decide) : RE X E (.Name x p) (eC v) := by
  obtain ⟨u, h1, h2⟩ := T.con i h
  obtain ⟨x0, r0, _⟩ := datB_ok (ι := ⟨fun _ => 0, fun _ => False⟩) (n := 0) (H := fun _ => none) h2
  refine pe_weak (pe_glob hg h1 r0 hd) fun σ H Q ⟨ι, G, ρ, S, sl, p⟩ => ?_
  obtain ⟨x1, r1, r2⟩ := datB_ok (ι := ι) (n := G.length) (H := H) h2
  rw [← relV_inj r1 r0]
  exact p.here S _ r2
end
/-! ### a head with facts of one's own -/
def obsX (fa : List He.Fa) (fn : List He.DefD) (fx : List (PySem.W.Frag → Bool)) (ts : List He.Tab) (K : PySem.W.Frag) : Bool × He.AlT := (fx.all fun f => f K, He.obsT fa fn ts K)
def obsXG (n : Nat) (fa : List He.Fa) (fn : List He.DefD) (fx : List (PySem.W.Frag → Bool)) (ts : List He.Tab) (g : Addr → Option Obj) : Bool × He.AlT := obsX fa fn fx ts (He.frG g (He.asD g n))
def SaysX (fa : List He.Fa) (fn : List He.DefD) (fx : List (PySem.W.Frag → Bool)) (ts : List He.Tab) (w : World) (K : PySem.W.Frag) : Prop := He.SaysT fa fn ts w K ∧ ∀ f ∈ fx, f K = true
def hookX (n : Nat) (fa : List He.Fa) (fn : List He.DefD) (fx : List (PySem.W.Frag → Bool)) (ts : List He.Tab) : PySem.W.Hook where
  α := Bool × He.AlT
  obs := fun s => obsXG n fa fn fx ts s.heap.get?
  val := fun w => (true, He.valT fn ts w)
  says := fun w h => ∃ K, K.In h ∧ SaysX fa fn fx ts w K
  of := fun _ s e => ⟨He.frG s.heap.get? (He.asD s.heap.get? n), He.frG_in, congrArg Prod.snd e, fun f hf => List.all_eq_true.mp (congrArg Prod.fst e) f hf⟩
  keeps := fun _ _ _ ⟨K, h1, h2⟩ hk => ⟨K, fun a o e => hk a o (h1 a o e), h2⟩
theorem obsXG_eq {n : Nat} {fa : List He.Fa} {fn : List He.DefD} {fx : List (PySem.W.Frag → Bool)} {ts : List He.Tab} {g : Addr → Option Obj} {s : Shared} (h : ∀ a, g a = s.heap.get? a) : obsXG n fa fn fx ts g = (hookX n fa fn fx ts).obs s := by
  have e : g = s.heap.get? := funext h
  rw [e]
  rfl
theorem txt_of {fa : List He.Fa} {fn : List He.DefD} {fx : List (PySem.W.Frag → Bool)} {ts : List He.Tab} {w : World} {K : PySem.W.Frag} {mg : Str → Option Value} {h : Heap} (c : SaysX fa fn fx ts w K) (KX : K.In h) (G : h.Ns mainGlobals mg) : Txt fa fn fx ts w K mg :=
  ⟨c.2, congrArg Prod.fst c.1, fun i _ e => He.SaysT.tab c.1 i e, h, KX, G⟩
end R1

namespace R1
open PySem PySem.Spec PyProof.Rows L2
theorem ps_setDc {X : Cx} {i : Nat} {y : Str} {py : Pos} {kx vx tg iter : PySem.Expr} {ifs : List PySem.Expr} {scope : PySem.Scope} {own : List (Str × Nat)} {pos spos : Pos} {wi : TI} {g : TG} {tt : TT} {tk tv : TE} (hc : X.calm = true) (hN : X.N.Nodup) (hy : X.N[i]? = some y) (hyl : X.env.scope.names.lookup y = some .local)
    (hsw : swapsWith (.DictComp kx vx [⟨tg, iter, ifs, 0⟩] scope pos) (some (.Name y py)) spos.line X.env = pure true) (hi : PI X tg iter wi) (ok : BlkOk X.N X.env.scope scope own)
    (hg : ∀ s H C cl fp, PG (X.blk s H scope (compEnvC scope cl C X.env) fp) tg g) (ht : ∀ s H C cl fp, PTs (X.blk s H scope (compEnvC scope cl C X.env) fp) ifs tt)
    (hk : ∀ s H C cl fp, PE (X.blk s H scope (compEnvC scope cl C X.env) fp) kx tk) (hv : ∀ s H C cl fp, PE (X.blk s H scope (compEnvC scope cl C X.env) fp) vx tv)
    (hs : ∀ x, foldedSetIterable iter X.env x = pure x := by intro _; rfl) :
    PS X (.Assign [.Name y py] (.DictComp kx vx [⟨tg, iter, ifs, 0⟩] scope pos) spos) (tAsg (tDc wi g tt tk tv (own.map (·.2))) (gName i)) := by
  refine ⟨fun pins s σ H D I h => ?_⟩
  rw [exec_Assign_Name_used y py _ spos hsw]
  refine wpAny_bind (wpAny_standAt (wpAny_bind ?_))
  refine wpAny_bind (thn (dc_core hc hN I hi ok hg ht hk hv hs h fun L C s' m H' I' q hn f => ?_) fun x s' hq => wpAny_pure (wpAny_pure hq))
  refine wpAny_assign_Name (store_ok2 I' hN hy (Or.inl hyl) (show L2.RelV (.ref L) (Value.ref L) from rfl) (fun s2 I2 ⟨a, sb, ha⟩ => ?_) (Or.inr hyl))
  obtain ⟨f0, f1, f2, f3, f4, f5⟩ := f
  have haC : C ≠ a := ha.elim (fun z => by rw [z]; exact f1) fun z e => f4 y a z e.symm
  exact ⟨m, hn.sameBut sb haC, fun h3 sb3 => ⟨σ.set i (some (.ref L)), H', Inv.turned I2 (fun b o hb e => (sb3.right b hb).trans e) f0 f1 f3 f4 f5, q⟩⟩
end R1

/-! R1s: dict comprehensions; walks over dicts. -/
namespace R1
open PySem PySem.Spec PyProof.Rows L2
/-! ### walks over a locked dict -/
section
variable {K : PySem.W.Frag} {E : XK} {ι ι' : Vw} {n n' : Nat} {H H' : Hp}
def keysD (l : List (Ky × Val)) : List Val := l.map fun q => keyV q.1
theorem KReps.kget : ∀ {l : List (Ky × Val)} {ks : List (Key × V)} {i : Nat} {v : Val}, KReps K ι n H l ks → (keysD l)[i]? = some v → ∃ k y, ks[i]? = some (k, y) ∧ ∀ {ι' : Vw} {n' : Nat} {H' : Hp}, Rep K ι' n' H' v (kV k)
  | [], _, _, _, _, e => by simp [keysD] at e
  | q :: l, _, 0, v, ⟨y, ys, h1, _, _⟩, e => by
    have e1 : keyV q.1 = v := by simpa [keysD] using e
    refine ⟨kyOf q.1, y, by rw [h1]; rfl, ?_⟩
    intro ι' n' H'
    rw [← e1]
    cases q.1 <;> exact rfl
  | q :: l, _, i + 1, v, ⟨y, ys, h1, _, h3⟩, e => by
    rw [h1]
    exact KReps.kget (l := l) (i := i) h3 (by simpa [keysD] using e)
theorem itk_w {d : Addr} {od : Obj} {l : List (Ky × Val)} {ks : List (Key × V)} (h : H d = some (.frz od (.dK ks))) (r : KReps K ι n H l ks) :
    (∀ (j : Nat) (ι' : Vw) (n' : Nat) (H' : Hp) v, Ext K ι n H ι' n' H' → (keysD l)[j]? = some v → (Itk d od ks).go j H' ∧ ∀ x H2, (Itk d od ks).yld j H' x H2 → H2 = H' ∧ Rep K ι' n' H' v x) ∧
    (∀ (ι' : Vw) (n' : Nat) (H' : Hp), Ext K ι n H ι' n' H' → (Itk d od ks).stop (keysD l).length H') := by
  have hl : ks.length = (keysD l).length := by rw [r.length]; simp [keysD]
  refine ⟨fun j ι' n' H' v x hv => ?_, fun ι' n' H' x => ⟨x.frz d od _ h, by rw [hl]; exact Nat.le_refl _⟩⟩
  obtain ⟨k, y, e, rr⟩ := r.kget hv
  refine ⟨⟨x.frz d od _ h, (List.getElem?_eq_some_iff.mp e).1⟩, fun z H2 ⟨e1, k', y', e2, e3⟩ => ⟨e1, ?_⟩⟩
  rw [e] at e2
  cases e2
  rw [e3]
  exact rr
/-- d is locked -/
theorem lock_w {d : Addr} {od : Obj} {ks : List (Key × V)} (S : Sim K ι G H) (h : H d = some (.dK ks)) (hm : ¬ ι.M d) : Sim K ι G (L2.upd H d (.frz od (.dK ks))) ∧ Ext K ι G.length H ι G.length (L2.upd H d (.frz od (.dK ks))) := by
  have x : Ext K ι G.length H ι G.length (L2.upd H d (.frz od (.dK ks))) := ⟨Nat.le_refl _, fun _ _ => rfl, fun a ys q => by
    rcases q with (q | ⟨z, q⟩) | q
    · exact .inl (.inl (by rw [upd_ne fun e => by rw [e, h] at q; cases q]; exact q))
    · exact .inl (.inr ⟨z, by rw [upd_ne fun e => by rw [e, h] at q; cases q]; exact q⟩)
    · exact .inr q, fun a ys q => ⟨by rw [upd_ne fun e => by have q1 := q.1; rw [e, h] at q1; cases q1]; exact q.1, q.2⟩, fun a ys q => by
    by_cases e : a = d
    · subst e
      obtain ⟨q | ⟨z, q⟩, q2⟩ := q
      · rw [h] at q
        cases q
        exact ⟨.inr ⟨od, upd_same⟩, hm⟩
      · rw [h] at q
        cases q
    · obtain ⟨q | ⟨z, q⟩, q2⟩ := q
      · exact ⟨.inl (by rw [upd_ne e]; exact q), q2⟩
      · exact ⟨.inr ⟨z, by rw [upd_ne e]; exact q⟩, q2⟩, fun a z u q => by
    rw [upd_ne fun e => by rw [e, h] at q; cases q]
    exact q, fun a u h1 h2 h3 => ⟨by rw [upd_ne fun e => hm (by rw [← e]; exact h1)]; exact h3, h1, h2⟩⟩
  exact ⟨⟨S.inj, S.mu, dom_upd S.dom, fun i o e => (S.obj i o e).ext x fun v hv => by
    have hi := (List.getElem?_eq_some_iff.mp e).1
    rw [upd_ne fun q => hm (by rw [← q]; exact S.mu i hi)]
    exact hv⟩, x⟩
/-- d is let go -/
theorem unlock0 {d : Addr} {od : Obj} {ks : List (Key × V)} (h : H d = some (.frz od (.dK ks))) : Ext0 K ι n H ι n (L2.upd H d (.dK ks)) :=
  ⟨Nat.le_refl _, fun _ _ => rfl, fun a ys q => by
    rcases q with (q | ⟨z, q⟩) | q
    · exact .inl (.inl (by rw [upd_ne fun e => by rw [e, h] at q; cases q]; exact q))
    · exact .inl (.inr ⟨z, by rw [upd_ne fun e => by rw [e, h] at q; cases q]; exact q⟩)
    · exact .inr q, fun a ys q => ⟨by rw [upd_ne fun e => by have q1 := q.1; rw [e, h] at q1; cases q1]; exact q.1, q.2⟩, fun a ys q => by
    by_cases e : a = d
    · subst e
      obtain ⟨q | ⟨z, q⟩, q2⟩ := q
      · rw [h] at q
        cases q
      · rw [h] at q
        cases q
        exact ⟨.inl upd_same, q2⟩
    · obtain ⟨q | ⟨z, q⟩, q2⟩ := q
      · exact ⟨.inl (by rw [upd_ne e]; exact q), q2⟩
      · exact ⟨.inr ⟨z, by rw [upd_ne e]; exact q⟩, q2⟩, fun a ys q => by
    rcases q with ⟨z, q⟩ | q
    · exact .inl ⟨z, by rw [upd_ne fun e => by rw [e, h] at q; cases q]; exact q⟩
    · exact .inr q⟩
theorem Ext.unlock {d : Addr} {od : Obj} {ks : List (Key × V)} (x : Ext K ι n H ι' n' H') (h : H d = some (.dK ks)) (h' : H' d = some (.frz od (.dK ks))) (hd : ¬ ι.M d ∨ ∃ i, i < n ∧ ι i = d) : Ext K ι n H ι' n' (L2.upd H' d (.dK ks)) := by
  have u := unlock0 (K := K) (ι := ι') (n := n') h'
  exact ⟨x.le, x.same, fun a ys q => u.tup a ys (x.tup a ys q), fun a ys q => u.fro a ys (x.fro a ys q), fun a ys q => u.frd a ys (x.frd a ys q), fun a z w q => by
    rw [upd_ne fun e => by rw [e, h] at q; cases q]
    exact x.frz a z w q, fun a w h1 h2 h3 => by
    obtain ⟨e1, e2, e3⟩ := x.res a w h1 h2 h3
    refine ⟨?_, e2, e3⟩
    rw [upd_ne fun e => ?_]
    · exact e1
    · subst e
      rcases hd with hd | ⟨i, hi, e⟩
      · exact hd h1
      · exact h2 i hi e⟩
theorem Sim.unlockF {G : Store} {d : Addr} {od : Obj} {ks : List (Key × V)} (S : Sim K ι G H) (h : H d = some (.frz od (.dK ks))) (hm : ¬ ι.M d) : Sim K ι G (L2.upd H d (.dK ks)) :=
  ⟨S.inj, S.mu, dom_upd S.dom, fun i o e => (S.obj i o e).ext0 (unlock0 h) fun v hv => by
    have hi := (List.getElem?_eq_some_iff.mp e).1
    rw [upd_ne fun q => hm (by rw [← q]; exact S.mu i hi)]
    exact hv⟩
theorem Sim.unlockO {G : Store} {j : Nat} {l : List (Ky × Val)} {od : Obj} {ks : List (Key × V)} (S : Sim K ι G H) (hj : G[j]? = some (.lok l)) (h : H (ι j) = some (.frz od (.dK ks))) : Sim K ι (G.set j (.dic l)) (L2.upd H (ι j) (.dK ks)) := by
  have hjl := (List.getElem?_eq_some_iff.mp hj).1
  refine ⟨fun a b ha hb => by rw [List.length_set] at ha hb; exact S.inj a b ha hb, fun i hi => S.mu i (by rw [List.length_set] at hi; exact hi), dom_upd S.dom, fun i o e => ?_⟩
  rw [List.length_set]
  by_cases hi : i = j
  · subst hi
    rw [List.getElem?_set_self hjl] at e
    cases e
    obtain ⟨z, ws, h1, r⟩ := S.obj i _ hj
    rw [h] at h1
    cases h1
    exact ⟨ks, upd_same, r.ext0 (unlock0 h)⟩
  · rw [List.getElem?_set_ne (Ne.symm hi)] at e
    have hil := (List.getElem?_eq_some_iff.mp e).1
    exact (S.obj i o e).ext0 (unlock0 h) fun v hv => by rw [upd_ne fun q => hi (S.inj i j hil hjl q)]; exact hv
end
/-! ### for k in d -/
def unlk1 (j : Nat) (G : Store) : Option Store := match G[j]? with
  | some (.lok l) => some (G.set j (.dic l))
  | _ => none
def unlkS (j : Nat) (r : SR) : SR := match r with
  | .next ρ G => (match unlk1 j G with | some G' => .next ρ G' | none => .bad)
  | .ret v G => (match unlk1 j G with | some G' => .ret v G' | none => .bad)
  | .brk ρ G => (match unlk1 j G with | some G' => .brk ρ G' | none => .bad)
  | .cont ρ G => (match unlk1 j G with | some G' => .cont ρ G' | none => .bad)
  | r => r
def unlkR (j : Nat) (r : Res Val) : Res Val := match r with
  | .ok v G => (match unlk1 j G with | some G' => .ok v G' | none => .bad)
  | r => r
/-- for p in x: x a name for a dict -/
def sForD (i : Nat) (p : Pt) (b : SM) : SM := fun ρ G => match ρ[i]? with
  | some (some (.frd l)) => forIt p b (keysD l) ρ G
  | some (some (.obj j)) => (match G[j]? with
    | some (.dic l) => unlkS j (forIt p b (keysD l) ρ (G.set j (.lok l)))
    | _ => .bad)
  | _ => .bad
section
variable {K : PySem.W.Frag} {E : XK} {ι : Vw} {n : Nat} {G : Store} {H : Hp}
theorem lockO {j : Nat} {l : List (Ky × Val)} (S : Sim K ι G H) (hj : G[j]? = some (.dic l)) : ∃ ks, H (ι j) = some (.dK ks) ∧ ∀ od, Sim K ι (G.set j (.lok l)) (L2.upd H (ι j) (.frz od (.dK ks))) ∧ Ext K ι G.length H ι (G.set j (.lok l)).length (L2.upd H (ι j) (.frz od (.dK ks))) ∧ KReps K ι (G.set j (.lok l)).length (L2.upd H (ι j) (.frz od (.dK ks))) l ks := by
  obtain ⟨ks, h1, r⟩ := S.dic hj
  refine ⟨ks, h1, fun od => ?_⟩
  have r2 := r.ext (Ext.updE (o := .frz od (.dK ks)) (S.fr hj h1 trivial))
  obtain ⟨s1, s2⟩ := S.set (u := .frz od (.dK ks)) (o := .lok l) hj rfl ⟨od, ks, upd_same, r2⟩
  exact ⟨s1, s2, by rw [List.length_set]; exact r2⟩
/-- what a locked walk answers, told when it is let go -/
theorem spost_unlockO {j : Nat} {l : List (Ky × Val)} {r : SR} {D : Ends} {od : Obj} {ks : List (Key × V)} (hj : j < G.length) (S : Sim K ι G H) (h0 : H (ι j) = some (.dK ks)) (x0 : Ext K ι G.length H ι G.length (L2.upd H (ι j) (.frz od (.dK ks)))) (p : SPost K E ι G.length H (unlkS j r) D) :
    SPost K E ι G.length (L2.upd H (ι j) (.frz od (.dK ks))) r { nx := fun σ' H' => H' (ι j) = some (.frz od (.dK ks)) ∧ D.nx σ' (L2.upd H' (ι j) (.dK ks)), rt := fun v H' => H' (ι j) = some (.frz od (.dK ks)) ∧ D.rt v (L2.upd H' (ι j) (.dK ks)), bk := fun σ' H' => H' (ι j) = some (.frz od (.dK ks)) ∧ D.bk σ' (L2.upd H' (ι j) (.dK ks)), ct := fun σ' H' => H' (ι j) = some (.frz od (.dK ks)) ∧ D.ct σ' (L2.upd H' (ι j) (.dK ks)) } := by
  have key : ∀ {G' G2 : Store} {ι' : Vw} {H' : Hp}, unlk1 j G' = some G2 → Ext K ι G.length (L2.upd H (ι j) (.frz od (.dK ks))) ι' G'.length H' → Sim K ι' G' H' → H' (ι j) = some (.frz od (.dK ks)) ∧ Ext K ι G.length H ι' G2.length (L2.upd H' (ι j) (.dK ks)) ∧ Sim K ι' G2 (L2.upd H' (ι j) (.dK ks)) ∧ Ext0 K ι' G'.length H' ι' G2.length (L2.upd H' (ι j) (.dK ks)) := fun {G' G2 ι' H'} e x S' => by
    have hd := x.frz (ι j) od _ upd_same
    have e2 : ι' j = ι j := x.same j hj
    unfold unlk1 at e
    cases e3 : G'[j]? with
    | none => rw [e3] at e; cases e
    | some o =>
      rw [e3] at e
      cases o with
      | lok l' =>
        cases e
        have s := S'.unlockO e3 (by rw [e2]; exact hd)
        rw [e2] at s
        refine ⟨hd, ?_, s, ?_⟩
        · rw [List.length_set]
          exact (x0.trans x).unlock h0 hd (.inr ⟨j, hj, rfl⟩)
        · rw [List.length_set]
          exact unlock0 hd
      | _ => cases e
  cases r with
  | next ρ' G' =>
    intro ι' H' σ' x S' sl
    cases e : unlk1 j G' with
    | none => simp only [unlkS, e] at p; exact p.elim
    | some G2 =>
      simp only [unlkS, e] at p
      obtain ⟨a, b, c, d⟩ := key e x S'
      exact ⟨a, p ι' _ σ' b c (sl.ext0 d)⟩
  | brk ρ' G' =>
    intro ι' H' σ' x S' sl
    cases e : unlk1 j G' with
    | none => simp only [unlkS, e] at p; exact p.elim
    | some G2 =>
      simp only [unlkS, e] at p
      obtain ⟨a, b, c, d⟩ := key e x S'
      exact ⟨a, p ι' _ σ' b c (sl.ext0 d)⟩
  | cont ρ' G' =>
    intro ι' H' σ' x S' sl
    cases e : unlk1 j G' with
    | none => simp only [unlkS, e] at p; exact p.elim
    | some G2 =>
      simp only [unlkS, e] at p
      obtain ⟨a, b, c, d⟩ := key e x S'
      exact ⟨a, p ι' _ σ' b c (sl.ext0 d)⟩
  | ret v G' =>
    intro ι' H' z x S' rz
    cases e : unlk1 j G' with
    | none => simp only [unlkS, e] at p; exact p.elim
    | some G2 =>
      simp only [unlkS, e] at p
      obtain ⟨a, b, c, d⟩ := key e x S'
      exact ⟨a, p ι' _ z b c (rz.ext0 d)⟩
  | exc c G' => exact fun ι' H' x S' => p ι' H' (x0.trans x) S'
  | bad => exact p
theorem spost_unlockF {d : Addr} {r : SR} {D : Ends} {od : Obj} {ks : List (Key × V)} (hm : ¬ ι.M d) (h0 : H d = some (.dK ks)) (x0 : Ext K ι G.length H ι G.length (L2.upd H d (.frz od (.dK ks)))) (p : SPost K E ι G.length H r D) :
    SPost K E ι G.length (L2.upd H d (.frz od (.dK ks))) r { nx := fun σ' H' => H' d = some (.frz od (.dK ks)) ∧ D.nx σ' (L2.upd H' d (.dK ks)), rt := fun v H' => H' d = some (.frz od (.dK ks)) ∧ D.rt v (L2.upd H' d (.dK ks)), bk := fun σ' H' => H' d = some (.frz od (.dK ks)) ∧ D.bk σ' (L2.upd H' d (.dK ks)), ct := fun σ' H' => H' d = some (.frz od (.dK ks)) ∧ D.ct σ' (L2.upd H' d (.dK ks)) } := by
  have key : ∀ {G' : Store} {ι' : Vw} {H' : Hp}, Ext K ι G.length (L2.upd H d (.frz od (.dK ks))) ι' G'.length H' → Sim K ι' G' H' → H' d = some (.frz od (.dK ks)) ∧ Ext K ι G.length H ι' G'.length (L2.upd H' d (.dK ks)) ∧ Sim K ι' G' (L2.upd H' d (.dK ks)) ∧ Ext0 K ι' G'.length H' ι' G'.length (L2.upd H' d (.dK ks)) := fun {G' ι' H'} x S' => by
    have hd := x.frz d od _ upd_same
    have hm' := (x.frd d ks ⟨.inr ⟨od, upd_same⟩, hm⟩).2
    exact ⟨hd, (x0.trans x).unlock h0 hd (.inl hm), S'.unlockF hd hm', unlock0 hd⟩
  cases r with
  | next ρ' G' =>
    intro ι' H' σ' x S' sl
    obtain ⟨a, b, c, d⟩ := key x S'
    exact ⟨a, p ι' _ σ' b c (sl.ext0 d)⟩
  | brk ρ' G' =>
    intro ι' H' σ' x S' sl
    obtain ⟨a, b, c, d⟩ := key x S'
    exact ⟨a, p ι' _ σ' b c (sl.ext0 d)⟩
  | cont ρ' G' =>
    intro ι' H' σ' x S' sl
    obtain ⟨a, b, c, d⟩ := key x S'
    exact ⟨a, p ι' _ σ' b c (sl.ext0 d)⟩
  | ret v G' =>
    intro ι' H' z x S' rz
    obtain ⟨a, b, c, d⟩ := key x S'
    exact ⟨a, p ι' _ z b c (rz.ext0 d)⟩
  | exc c G' => exact fun ι' H' x S' => p ι' H' (x0.trans x) S'
  | bad => exact p
theorem forD_at {p : Pt} {b : SM} {D : Ends} {i : Nat} {σ : L2.St} {ρ : Env1} {x : V} {d : Addr} {od : Obj} {l : List (Ky × Val)} {ks : List (Key × V)} (hx : σ[i]? = some (some (.ref d))) (h : H d = some (.frz od (.dK ks))) (r : KReps K ι G.length H l ks) (S : Sim K ι G H) (sl : Slots K ι G.length H ρ σ)
    (q : SPost K E ι G.length H (forIt p b (keysD l) ρ G) D) : tFor (iKeys (tVar i)) (tG K p) (tS K E b) D σ H :=
  ⟨.ref d, hx, d, od, rfl, .inl ⟨ks, h, for_w (itk_w h r).1 (itk_w h r).2 S sl q⟩⟩
end
section
variable {X : Cx} {E : XK} {tg : PySem.Expr} {body : List Stmt} {p : Pt} {b : SM} {pos pn : Pos} {x : Str}
theorem rs_forD {i : Nat} (hp : PassesOwn (model X.prog X.w) X.A X.env X.xe) (hc : X.calm = true) (hg : RG X tg p) (hb : RSs X E body b) (hN : X.N[i]? = some x := by rfl) (hv : Vis X.env.scope x := by first | exact .inl rfl | exact .inr (.inl rfl) | exact .inr (.inr rfl))
    (hd : (x == ("__debug__" : Str)) = false := by decide) (hcd : (x == ("__classdict__" : Str)) = false := by decide) (hs : ∀ z, foldedSetIterable (.Name x pn) X.env z = pure z := by intro _; rfl) : RS X E (.For tg (.Name x pn) body [] pos) (sForD i p b) := by
  have r0 := ps_for hp hc (pi_keys (pe_var (pos := pn) hN hv hd hcd)) hg hb hs (pos := pos)
  have r1 := ps_lock r0
  refine ⟨fun pins s σ H D I ⟨ι, G, ρ, S, sl, q⟩ => ?_⟩
  unfold sForD at q
  cases e : ρ[i]? with
  | none => rw [e] at q; exact q.elim
  | some o =>
    cases o with
    | none => rw [e] at q; exact q.elim
    | some v =>
      rw [e] at q
      obtain ⟨y, hy, ry⟩ := sl.get e
      cases v with
      | frd l =>
        obtain ⟨d, ks, ey, ⟨h, hm⟩, r⟩ := ry
        subst ey
        rcases h with h | ⟨od, h⟩
        · refine r1.run pins s σ H D I ⟨d, _, h, trivial, fun od => ?_⟩
          obtain ⟨s1, x1⟩ := lock_w (od := od) S h hm
          exact forD_at (x := .ref d) hy upd_same (r.ext x1) s1 (sl.ext x1) (spost_unlockF hm h x1 q)
        · exact r0.run pins s σ H D I (forD_at (x := .ref d) hy h r S sl q)
      | obj j =>
        dsimp only at q
        cases e2 : G[j]? with
        | none => rw [e2] at q; exact q.elim
        | some o =>
          rw [e2] at q
          cases o with
          | dic l =>
            obtain ⟨ks, h, k⟩ := lockO S e2
            have ey : y = .ref (ι j) := ry.2
            subst ey
            refine r1.run pins s σ H D I ⟨ι j, _, h, trivial, fun od => ?_⟩
            obtain ⟨s1, x1, r2⟩ := k od
            have hl : (G.set j (.lok l)).length = G.length := List.length_set ..
            have q2 := spost_unlockO (l := l) (od := od) ry.1 S h (by rw [← hl]; rw [hl]; rw [hl] at x1; exact x1) q
            rw [← hl] at q2
            exact forD_at (x := .ref (ι j)) hy upd_same r2 s1 (sl.ext x1) q2
          | _ => exact q.elim
      | _ => exact q.elim
end
end R1

/-! R1u: dict comprehensions; comprehensions over a dict's keys. -/
namespace R1
open PySem PySem.Spec PyProof.Rows L2
def dcT (p : Pt) (tt : TM) (tk tv : EM) (ρw : Env1) (v : Val) (acc : List (Ky × Val)) (k : List (Ky × Val) → Store → Res (List (Ky × Val))) (G : Store) : Res (List (Ky × Val)) := match ptSet G p v ρw with
  | none => .bad
  | some ρ2 => (tt ρ2 G).bind fun b G1 => if b = true then (tk ρ2 G1).bind fun y G2 => (tv ρ2 G2).bind fun w G3 => (match keyOf y with
      | some ky => if acc.length < sizeLine then k (putKy acc ky w) G3 else .bad
      | none => .bad) else k acc G1
def dcF (p : Pt) (tt : TM) (tk tv : EM) (ρw : Env1) : List Val → List (Ky × Val) → Store → Res (List (Ky × Val))
  | [], acc, G => .ok acc G
  | v :: r, acc, G => dcT p tt tk tv ρw v acc (dcF p tt tk tv ρw r) G
def frdR (z : Bool) (r : Res (List (Ky × Val))) : Res Val := r.bind fun l G => mkD z l G
/-- {tk: tv for p in m if tt} -/
def eDc (z : Bool) (m : EM) (p : Pt) (tt : TM) (tk tv : EM) (own : List Nat) : EM := fun ρ G => (m ρ G).bind fun v G1 => match v with
  | .tup l => frdR z (dcF p tt tk tv (wipe1 ρ own) l [] G1)
  | .fro l => frdR z (dcF p tt tk tv (wipe1 ρ own) l [] G1)
  | _ => .bad
section
variable {K : PySem.W.Frag} {E : XK} {p : Pt} {tt : TM} {tk tv : EM} {own : List Nat} {z : Bool}
theorem Mid.pushD {ι0 ι : Vw} {n0 : Nat} {G : Store} {H0 H : Hp} {D : Addr} {acc : List (Ky × Val)} {k : Ky} {v : Val} {y : V} (hD : H0 D = none) (h : Mid K ι0 n0 H0 D (.dic acc) ι G H) (r : Rep K ι G.length H v y) :
    ∃ xs, H D = some (.dK xs) ∧ xs.length = acc.length ∧ Mid K ι0 n0 H0 D (.dic (putKy acc k v)) ι G (L2.upd H D (.dK (putK xs (kyOf k) y))) := by
  obtain ⟨xs, h1, h2⟩ := h.at_
  exact ⟨xs, h1, h2.length, h.x.updR hD h1 trivial h.m, h.S.updR h1 trivial h.m h.r, ⟨_, upd_same, (h2.put r).ext0 (updR0 h1 trivial h.m)⟩, h.m, h.r⟩
theorem dcF_turn {ι0 ι : Vw} {n0 : Nat} {G : Store} {H0 H : Hp} {D : Addr} {acc : List (Ky × Val)} {ρ : Env1} {σ : L2.St} {v : Val} {x : V} {k : List (Ky × Val) → Store → Res (List (Ky × Val))} {R : Vw → Store → Hp → Val → Prop} (hD : H0 D = none) (ho : ∀ i ∈ p.slots, i ∈ own) (M : Mid K ι0 n0 H0 D (.dic acc) ι G H) (rx : Rep K ι G.length H v x) (sl : Slots K ι G.length H (wipe1 ρ own) (L2.wipe σ own))
    (q : Post K E ι0 n0 H0 (frdR z (dcT p tt tk tv (wipe1 ρ own) v acc k G)) R) {N : Hp → Prop}
    (hN : ∀ acc' ι' G' H', Mid K ι0 n0 H0 D (.dic acc') ι' G' H' → Post K E ι0 n0 H0 (frdR z (k acc' G')) R → N H') :
    tG K p x (L2.wipe σ own) H fun σ2 H2 => L2.wipe σ2 own = L2.wipe σ own ∧ tT K E tt σ2 H2 fun b H3 => if b = true then tE K E tk σ2 H3 fun y H4 => tE K E tv σ2 H4 fun z H5 => ∃ kvs k, y = kV k ∧ H5 D = some (.dK kvs) ∧ kvs.length < sizeLine ∧ N (L2.upd H5 D (.dK (putK kvs k z))) else N H3 := by
  unfold dcT at q
  cases e : ptSet G p v (wipe1 ρ own) with
  | none => rw [e] at q; exact q.elim
  | some ρ2 =>
    rw [e] at q
    dsimp only at q
    refine ⟨ι, G, v, wipe1 ρ own, ρ2, M.S, rx, sl, e, fun σ' l' hl' hj => ⟨wipe_same ho hl' hj, ι, G, ρ2, M.S, l', ?_⟩⟩
    have bb : ∀ {α : Type} (r : Res α) (f : α → Store → Res (List (Ky × Val))), frdR z (r.bind f) = r.bind fun a G => frdR z (f a G) := fun r f => by cases r <;> rfl
    rw [bb] at q
    refine (Post.bind0 M.x q).mono fun ι1 G1 H1 b x1 S1 ⟨_, q1⟩ => ?_
    have M1 := M.next x1 S1
    cases b with
    | false => exact hN acc ι1 G1 H1 M1 q1
    | true =>
      rw [if_pos rfl] at q1
      rw [bb] at q1
      show tE K E tk σ' H1 _
      refine run2 S1 (l'.ext x1) ((Post.bind0 M1.x q1).mono fun ι2 G2 H2 y x2 S2 ⟨_, q2⟩ y' ry => ?_)
      have M2 := M1.next x2 S2
      rw [bb] at q2
      refine run2 S2 (l'.ext (x1.trans x2)) ((Post.bind0 M2.x q2).mono fun ι3 G3 H3 w x3 S3 ⟨_, q3⟩ w' rw_ => ?_)
      have M3 := M2.next x3 S3
      cases e2 : keyOf y with
      | none => rw [e2] at q3; exact q3.elim
      | some ky =>
        rw [e2] at q3
        dsimp only at q3
        by_cases hl : acc.length < sizeLine
        · rw [if_pos hl] at q3
          obtain ⟨xs, h1, h2, M4⟩ := M3.pushD (k := ky) hD rw_
          exact ⟨xs, kyOf ky, key_rep ry e2, h1, by rw [h2]; exact hl, hN _ ι3 G3 _ M4 q3⟩
        · rw [if_neg hl] at q3
          exact q3.elim
theorem dcF_w {J : It} {l : List Val} {ι : Vw} {G : Store} {H : Hp} {ρ : Env1} {σ : L2.St} {Q : VK} (ho : ∀ i ∈ p.slots, i ∈ own)
    (item : ∀ (j : Nat) (ι' : Vw) (n' : Nat) (H' : Hp) v, Ext K ι G.length H ι' n' H' → l[j]? = some v → J.go j H' ∧ ∀ x H2, J.yld j H' x H2 → H2 = H' ∧ Rep K ι' n' H' v x)
    (stop : ∀ (ι' : Vw) (n' : Nat) (H' : Hp), Ext K ι G.length H ι' n' H' → J.stop l.length H')
    (S : Sim K ι G H) (sl : Slots K ι G.length H ρ σ) (q : Post K E ι G.length H (frdR z (dcF p tt tk tv (wipe1 ρ own) l [] G)) fun ι' G' H' v => ∀ x, Rep K ι' G'.length H' v x → Q x H') :
    ∀ D, H D = none → ∃ W : Nat → Nat → Hp → Prop, (∃ m, W 0 m (L2.upd H D (.dK []))) ∧ ∀ i m H, W i m H →
      (J.stop i H ∧ Q (.ref D) H) ∨ (J.go i H ∧ ∃ Nx : Hp → Prop, (∀ H', Nx H' → ∃ m', m' < m ∧ W (i + 1) m' H') ∧ ∀ x H', J.yld i H x H' → tG K p x (L2.wipe σ own) H' fun σ2 H2 => L2.wipe σ2 own = L2.wipe σ own ∧ tT K E tt σ2 H2 fun b H3 =>
        if b = true then tE K E tk σ2 H3 fun y H4 => tE K E tv σ2 H4 fun z H5 => ∃ kvs k, y = kV k ∧ H5 D = some (.dK kvs) ∧ kvs.length < sizeLine ∧ Nx (L2.upd H5 D (.dK (putK kvs k z))) else Nx H3) := fun D hD => by
  refine ⟨fun i m H' => ∃ acc ι' G', Mid K ι G.length H D (.dic acc) ι' G' H' ∧ i + m = l.length ∧
    Post K E ι G.length H (frdR z (dcF p tt tk tv (wipe1 ρ own) (l.drop i) acc G')) (fun ι' G' H' v => ∀ x, Rep K ι' G'.length H' v x → Q x H'), ⟨l.length, [], ι.add D, G, Mid.new S hD ⟨[], upd_same, rfl⟩, Nat.zero_add _, q⟩, ?_⟩
  rintro i m H' ⟨acc, ι', G', M, hm, q'⟩
  cases m with
  | zero =>
    have hi : i = l.length := by omega
    subst hi
    rw [List.drop_length] at q'
    exact .inl ⟨stop ι' G'.length H' M.x, M.doneD hD (E := E) (z := z) q'⟩
  | succ m =>
    have hi : i < l.length := by omega
    obtain ⟨v, hv⟩ : ∃ v, l[i]? = some v := ⟨l[i], List.getElem?_eq_getElem hi⟩
    obtain ⟨go, yld⟩ := item i ι' G'.length H' v M.x hv
    have ed : l.drop i = v :: l.drop (i + 1) := by
      rw [List.drop_eq_getElem_cons hi]
      rw [List.getElem?_eq_getElem hi] at hv
      rw [Option.some.inj hv]
    rw [ed] at q'
    refine .inr ⟨go, fun H2 => ∃ acc ι2 G2, Mid K ι G.length H D (.dic acc) ι2 G2 H2 ∧ (i + 1) + m = l.length ∧
      Post K E ι G.length H (frdR z (dcF p tt tk tv (wipe1 ρ own) (l.drop (i + 1)) acc G2)) (fun ι' G' H' v => ∀ x, Rep K ι' G'.length H' v x → Q x H'), fun H2 h => ⟨m, Nat.lt_succ_self _, h⟩, fun x H2 hy => ?_⟩
    obtain ⟨rfl, rx⟩ := yld x H2 hy
    exact dcF_turn (k := dcF p tt tk tv (wipe1 ρ own) (l.drop (i + 1))) hD ho M rx ((sl.wipe own).ext M.x) q' fun acc' ι2 G2 H2 M2 q2 => ⟨acc', ι2, G2, M2, by omega, q2⟩
end
/-! ### over a dict with a name -/
def onD (i : Nat) (run : Env1 → List Val → Store → Res Val) : EM := fun ρ G => match ρ[i]? with
  | some (some (.frd l)) => run ρ (keysD l) G
  | some (some (.obj j)) => (match G[j]? with
    | some (.dic l) => unlkR j (run ρ (keysD l) (G.set j (.lok l)))
    | _ => .bad)
  | _ => .bad
section
variable {K : PySem.W.Frag} {E : XK} {ι : Vw} {n : Nat} {G : Store} {H : Hp}
theorem post_unlockO {j : Nat} {r : Res Val} {Q : VK} {od : Obj} {ks : List (Key × V)} (hj : j < G.length) (S : Sim K ι G H) (h0 : H (ι j) = some (.dK ks)) (x0 : Ext K ι G.length H ι G.length (L2.upd H (ι j) (.frz od (.dK ks)))) (p : Post K E ι G.length H (unlkR j r) fun ι' G' H' v => ∀ x, Rep K ι' G'.length H' v x → Q x H') :
    Post K E ι G.length (L2.upd H (ι j) (.frz od (.dK ks))) r fun ι' G' H' v => ∀ x, Rep K ι' G'.length H' v x → H' (ι j) = some (.frz od (.dK ks)) ∧ Q x (L2.upd H' (ι j) (.dK ks)) := by
  cases r with
  | ok v G' =>
    have q := spost_unlockO (E := E) (l := []) (r := .ret v G') (D := { nx := fun _ _ => True, rt := Q, bk := fun _ _ => True, ct := fun _ _ => True }) hj S h0 x0 (by
      unfold unlkS
      unfold unlkR at p
      cases e : unlk1 j G' with
      | none => simp only [e] at p; exact p.elim
      | some G2 => simp only [e] at p ⊢; exact fun ι' H' z x S' rz => p ι' H' x S' z rz)
    exact fun ι' H' x S' z rz => q ι' H' z x S' rz
  | exc c G' => exact fun ι' H' x S' => p ι' H' (x0.trans x) S'
  | bad => exact p
theorem post_unlockF {d : Addr} {r : Res Val} {Q : VK} {od : Obj} {ks : List (Key × V)} (hm : ¬ ι.M d) (h0 : H d = some (.dK ks)) (x0 : Ext K ι G.length H ι G.length (L2.upd H d (.frz od (.dK ks)))) (p : Post K E ι G.length H r fun ι' G' H' v => ∀ x, Rep K ι' G'.length H' v x → Q x H') :
    Post K E ι G.length (L2.upd H d (.frz od (.dK ks))) r fun ι' G' H' v => ∀ x, Rep K ι' G'.length H' v x → H' d = some (.frz od (.dK ks)) ∧ Q x (L2.upd H' d (.dK ks)) := by
  cases r with
  | ok v G' =>
    have q := spost_unlockF (E := E) (r := .ret v G') (D := { nx := fun _ _ => True, rt := Q, bk := fun _ _ => True, ct := fun _ _ => True }) hm h0 x0 (fun ι' H' z x S' rz => p ι' H' x S' z rz)
    exact fun ι' H' x S' z rz => q ι' H' z x S' rz
  | exc c G' => exact fun ι' H' x S' => p ι' H' (x0.trans x) S'
  | bad => exact p
theorem onD_sel {i : Nat} {run : Env1 → List Val → Store → Res Val} {tC : TE}
    (hC : ∀ (ι : Vw) (G : Store) (H : Hp) (ρ : Env1) (σ : L2.St) (Q : VK) (d : Addr) (od : Obj) (l : List (Ky × Val)) (ks : List (Key × V)), σ[i]? = some (some (.ref d)) → H d = some (.frz od (.dK ks)) → KReps K ι G.length H l ks → Sim K ι G H → Slots K ι G.length H ρ σ →
      Post K E ι G.length H (run ρ (keysD l) G) (fun ι' G' H' v => ∀ x, Rep K ι' G'.length H' v x → Q x H') → tC σ H Q) {σ : L2.St} {Q : VK} (h : tE K E (onD i run) σ H Q) : tLockE tC σ H Q ∨ tC σ H Q := by
  obtain ⟨ι, G, ρ, S, sl, q⟩ := h
  unfold onD at q
  cases e : ρ[i]? with
  | none => rw [e] at q; exact q.elim
  | some o =>
    cases o with
    | none => rw [e] at q; exact q.elim
    | some v =>
      rw [e] at q
      obtain ⟨y, hy, ry⟩ := sl.get e
      cases v with
      | frd l =>
        obtain ⟨d, ks, ey, ⟨h, hm⟩, r⟩ := ry
        subst ey
        rcases h with h | ⟨od, h⟩
        · refine .inl ⟨d, _, h, trivial, fun od => ?_⟩
          obtain ⟨s1, x1⟩ := lock_w (od := od) S h hm
          exact hC ι G _ ρ σ _ d od l ks hy upd_same (r.ext x1) s1 (sl.ext x1) (post_unlockF hm h x1 q)
        · exact .inr (hC ι G H ρ σ Q d od l ks hy h r S sl q)
      | obj j =>
        dsimp only at q
        cases e2 : G[j]? with
        | none => rw [e2] at q; exact q.elim
        | some o =>
          rw [e2] at q
          cases o with
          | dic l =>
            obtain ⟨ks, h, k⟩ := lockO S e2
            have ey : y = .ref (ι j) := ry.2
            subst ey
            refine .inl ⟨ι j, _, h, trivial, fun od => ?_⟩
            obtain ⟨s1, x1, r2⟩ := k od
            have hl : (G.set j (.lok l)).length = G.length := List.length_set ..
            have q2 := post_unlockO (od := od) ry.1 S h (by rw [hl] at x1; exact x1) q
            rw [← hl] at q2
            exact hC ι _ _ ρ σ _ (ι j) od l ks hy upd_same r2 s1 (sl.ext x1) q2
          | _ => exact q.elim
      | _ => exact q.elim
end
section
variable {X : Cx} {E : XK} {tg iter elt kx vx : PySem.Expr} {ifs : List PySem.Expr} {scope : PySem.Scope} {own : List (Str × Nat)} {mi te tk tv : EM} {tt : TM} {p : Pt} {pos pn spos py : Pos} {x y : Str} {z : Bool} {m : EM} {tC : TE}
theorem pe_onD {e : PySem.Expr} (h : PE X e tC) (w : ∀ σ H Q, tE X.K E m σ H Q → tLockE tC σ H Q ∨ tC σ H Q) : RE X E e m := pe_weak (pe_orE (pe_lock h) h) w
theorem ps_onD {st : Stmt} {i : Nat} (h : PS X st (tAsg tC (gName i))) (w : ∀ σ H Q, tE X.K E m σ H Q → tLockE tC σ H Q ∨ tC σ H Q) : RS X E st (sSet i m) := by
  have h1 := ps_lock h
  refine ⟨fun pins s σ H D I ⟨ι, G, ρ, S, sl, q⟩ => ?_⟩
  have q2 : tE X.K E m σ H fun x H1 => D.nx (σ.set i (some x)) H1 := run1 S sl (q.ofRes.mono fun ι1 G1 H1 v x1 S1 p1 x rx => p1 ι1 H1 (σ.set i (some x)) .refl S1 ((sl.ext x1).set rx i))
  rcases w _ _ _ q2 with ⟨d, u, hd, hm, k⟩ | k
  · exact h1.run pins s σ H D I ⟨d, u, hd, hm, k⟩
  · exact h.run pins s σ H D I k
theorem ps_setAny {st : Stmt} {i : Nat} (h : PS X st (tAsg tC (gName i))) (w : ∀ σ H Q, tE X.K E m σ H Q → tC σ H Q) : RS X E st (sSet i m) :=
  ps_weak h fun D σ H ⟨ι, G, ρ, S, sl, q⟩ => w σ H _ (run1 S sl (q.ofRes.mono fun ι1 G1 H1 v x1 S1 p1 x rx => p1 ι1 H1 (σ.set i (some x)) .refl S1 ((sl.ext x1).set rx i)))
/-- [te for p in d if tt], d a name for a dict -/
def eLcD (z : Bool) (i : Nat) (p : Pt) (tt : TM) (te : EM) (own : List Nat) : EM := onD i fun ρ l G => if l.length ≤ sizeLine then froR z (lcF p tt te (wipe1 ρ own) l G) else .bad
def eDcD (z : Bool) (i : Nat) (p : Pt) (tt : TM) (tk tv : EM) (own : List Nat) : EM := onD i fun ρ l G => frdR z (dcF p tt tk tv (wipe1 ρ own) l [] G)
theorem lcD_w {K : PySem.W.Frag} {i : Nat} {own : List Nat} (ho : ∀ i ∈ p.slots, i ∈ own) : ∀ σ H Q, tE K E (eLcD z i p tt te own) σ H Q → tLockE (tLc (iKeys (tVar i)) (tG K p) (tT K E tt) (tE K E te) own) σ H Q ∨ tLc (iKeys (tVar i)) (tG K p) (tT K E tt) (tE K E te) own σ H Q := fun σ H Q h =>
  onD_sel (fun ι G H ρ σ Q d od l ks hx hd r S sl q => ⟨.ref d, hx, d, od, rfl, .inl ⟨ks, hd, by
    by_cases hz : (keysD l).length ≤ sizeLine
    · rw [if_pos hz] at q
      exact lcF_w ho hz (itk_w hd r).1 (itk_w hd r).2 S sl q
    · rw [if_neg hz] at q
      exact q.elim⟩⟩) h
theorem dcD_w {K : PySem.W.Frag} {i : Nat} {own : List Nat} (ho : ∀ i ∈ p.slots, i ∈ own) : ∀ σ H Q, tE K E (eDcD z i p tt tk tv own) σ H Q → tLockE (tDc (iKeys (tVar i)) (tG K p) (tT K E tt) (tE K E tk) (tE K E tv) own) σ H Q ∨ tDc (iKeys (tVar i)) (tG K p) (tT K E tt) (tE K E tk) (tE K E tv) own σ H Q := fun σ H Q h =>
  onD_sel (fun ι G H ρ σ Q d od l ks hx hd r S sl q => ⟨.ref d, hx, d, od, rfl, .inl ⟨ks, hd, dcF_w ho (itk_w hd r).1 (itk_w hd r).2 S sl q⟩⟩) h
def eDcL (z : Bool) (m : EM) (p : Pt) (tt : TM) (tk tv : EM) (own : List Nat) : EM := fun ρ G => (m ρ G).bind fun v G1 => match v with
  | .fro l => frdR z (dcF p tt tk tv (wipe1 ρ own) l [] G1)
  | _ => .bad
def eDcT (z : Bool) (m : EM) (p : Pt) (tt : TM) (tk tv : EM) (own : List Nat) : EM := fun ρ G => (m ρ G).bind fun v G1 => match v with
  | .tup l => frdR z (dcF p tt tk tv (wipe1 ρ own) l [] G1)
  | _ => .bad
theorem dc_eq (ρ : Env1) (G : Store) (own : List Nat) : eDc z mi p tt tk tv own ρ G = eDcL z mi p tt tk tv own ρ G ∨ eDc z mi p tt tk tv own ρ G = eDcT z mi p tt tk tv own ρ G := by
  unfold eDc eDcL eDcT
  cases mi ρ G with
  | ok v G1 => cases v <;> first | exact .inl rfl | exact .inr rfl
  | _ => exact .inl rfl
theorem dcL_w {K : PySem.W.Frag} {own : List Nat} (ho : ∀ i ∈ p.slots, i ∈ own) : ∀ σ H Q, tE K E (eDcL z mi p tt tk tv own) σ H Q → tDc (iList K (tE K E mi)) (tG K p) (tT K E tt) (tE K E tk) (tE K E tv) own σ H Q := fun σ H Q ⟨ι, G, ρ, S, sl, q⟩ => run2 S sl ((Post.bind q).mono fun ι1 G1 H1 v x1 S1 q1 x rx => by
  cases v with
  | fro l =>
    obtain ⟨a, xs, ex, h1, h2⟩ := rx
    exact ⟨a, ex, ⟨xs, h1.l⟩, dcF_w ho (itf_w h1 h2).1 (itf_w h1 h2).2 S1 (sl.ext x1) q1⟩
  | _ => exact q1.elim)
theorem dcT_w {K : PySem.W.Frag} {own : List Nat} (ho : ∀ i ∈ p.slots, i ∈ own) : ∀ σ H Q, tE K E (eDcT z mi p tt tk tv own) σ H Q → tDc (iTup K (tE K E mi)) (tG K p) (tT K E tt) (tE K E tk) (tE K E tv) own σ H Q := fun σ H Q ⟨ι, G, ρ, S, sl, q⟩ => run2 S sl ((Post.bind q).mono fun ι1 G1 H1 v x1 S1 q1 x rx => by
  cases v with
  | tup l =>
    obtain ⟨a, xs, ex, h1, h2⟩ := rx
    exact ⟨a, ex, ⟨xs, h1⟩, dcF_w ho (itt_w h1 h2).1 (itt_w h1 h2).2 S1 (sl.ext x1) q1⟩
  | _ => exact q1.elim)
/-- the four printed rules -/
theorem re_lcD {i : Nat} (hc : X.calm = true) (hNd : X.N.Nodup) (ok : BlkOk X.N X.env.scope scope own) (ho : ∀ i ∈ p.slots, i ∈ own.map (·.2))
    (hg : ∀ s H C cl fp, RG (Blk X scope s H C cl fp) tg p) (ht : ∀ s H C cl fp, PTs (Blk X scope s H C cl fp) ifs (tT X.K E tt)) (he : ∀ s H C cl fp, RE (Blk X scope s H C cl fp) E elt te)
    (hN : X.N[i]? = some x := by rfl) (hv : Vis X.env.scope x := by first | exact .inl rfl | exact .inr (.inl rfl) | exact .inr (.inr rfl)) (hd : (x == ("__debug__" : Str)) = false := by decide) (hcd : (x == ("__classdict__" : Str)) = false := by decide)
    (hs : ∀ w, foldedSetIterable (.Name x pn) X.env w = pure w := by intro _; rfl) : RE X E (.ListComp elt [⟨tg, .Name x pn, ifs, 0⟩] scope pos) (eLcD z i p tt te (own.map (·.2))) :=
  pe_onD (pe_lc (g := tG X.K p) (tt := tT X.K E tt) (te := tE X.K E te) hc hNd (pi_keys (pe_var hN hv hd hcd)) ok hg ht he hs) (lcD_w ho)
theorem rs_setLcD {i j : Nat} (hc : X.calm = true) (hNd : X.N.Nodup) (hy : X.N[j]? = some y) (hyl : X.env.scope.names.lookup y = some .local)
    (hsw : swapsWith (.ListComp elt [⟨tg, .Name x pn, ifs, 0⟩] scope pos) (some (.Name y py)) spos.line X.env = pure true) (ok : BlkOk X.N X.env.scope scope own) (ho : ∀ i ∈ p.slots, i ∈ own.map (·.2))
    (hg : ∀ s H C cl fp, RG (Blk X scope s H C cl fp) tg p) (ht : ∀ s H C cl fp, PTs (Blk X scope s H C cl fp) ifs (tT X.K E tt)) (he : ∀ s H C cl fp, RE (Blk X scope s H C cl fp) E elt te)
    (hN : X.N[i]? = some x := by rfl) (hv : Vis X.env.scope x := by first | exact .inl rfl | exact .inr (.inl rfl) | exact .inr (.inr rfl)) (hd : (x == ("__debug__" : Str)) = false := by decide) (hcd : (x == ("__classdict__" : Str)) = false := by decide)
    (hs : ∀ w, foldedSetIterable (.Name x pn) X.env w = pure w := by intro _; rfl) : RS X E (.Assign [.Name y py] (.ListComp elt [⟨tg, .Name x pn, ifs, 0⟩] scope pos) spos) (sSet j (eLcD z i p tt te (own.map (·.2)))) :=
  ps_onD (ps_setLc (g := tG X.K p) (tt := tT X.K E tt) (te := tE X.K E te) hc hNd hy hyl hsw (pi_keys (pe_var hN hv hd hcd)) ok hg ht he hs) (lcD_w ho)
theorem re_dcD {i : Nat} (hc : X.calm = true) (hNd : X.N.Nodup) (ok : BlkOk X.N X.env.scope scope own) (ho : ∀ i ∈ p.slots, i ∈ own.map (·.2))
    (hg : ∀ s H C cl fp, RG (Blk X scope s H C cl fp) tg p) (ht : ∀ s H C cl fp, PTs (Blk X scope s H C cl fp) ifs (tT X.K E tt)) (hk : ∀ s H C cl fp, RE (Blk X scope s H C cl fp) E kx tk) (he : ∀ s H C cl fp, RE (Blk X scope s H C cl fp) E vx tv)
    (hN : X.N[i]? = some x := by rfl) (hv : Vis X.env.scope x := by first | exact .inl rfl | exact .inr (.inl rfl) | exact .inr (.inr rfl)) (hd : (x == ("__debug__" : Str)) = false := by decide) (hcd : (x == ("__classdict__" : Str)) = false := by decide)
    (hs : ∀ w, foldedSetIterable (.Name x pn) X.env w = pure w := by intro _; rfl) : RE X E (.DictComp kx vx [⟨tg, .Name x pn, ifs, 0⟩] scope pos) (eDcD z i p tt tk tv (own.map (·.2))) :=
  pe_onD (pe_dc (g := tG X.K p) (tt := tT X.K E tt) (tk := tE X.K E tk) (tv := tE X.K E tv) hc hNd (pi_keys (pe_var hN hv hd hcd)) ok hg ht hk he hs) (dcD_w ho)
theorem rs_setDcD {i j : Nat} (hc : X.calm = true) (hNd : X.N.Nodup) (hy : X.N[j]? = some y) (hyl : X.env.scope.names.lookup y = some .local)
    (hsw : swapsWith (.DictComp kx vx [⟨tg, .Name x pn, ifs, 0⟩] scope pos) (some (.Name y py)) spos.line X.env = pure true) (ok : BlkOk X.N X.env.scope scope own) (ho : ∀ i ∈ p.slots, i ∈ own.map (·.2))
    (hg : ∀ s H C cl fp, RG (Blk X scope s H C cl fp) tg p) (ht : ∀ s H C cl fp, PTs (Blk X scope s H C cl fp) ifs (tT X.K E tt)) (hk : ∀ s H C cl fp, RE (Blk X scope s H C cl fp) E kx tk) (he : ∀ s H C cl fp, RE (Blk X scope s H C cl fp) E vx tv)
    (hN : X.N[i]? = some x := by rfl) (hv : Vis X.env.scope x := by first | exact .inl rfl | exact .inr (.inl rfl) | exact .inr (.inr rfl)) (hd : (x == ("__debug__" : Str)) = false := by decide) (hcd : (x == ("__classdict__" : Str)) = false := by decide)
    (hs : ∀ w, foldedSetIterable (.Name x pn) X.env w = pure w := by intro _; rfl) : RS X E (.Assign [.Name y py] (.DictComp kx vx [⟨tg, .Name x pn, ifs, 0⟩] scope pos) spos) (sSet j (eDcD z i p tt tk tv (own.map (·.2)))) :=
  ps_onD (ps_setDc (g := tG X.K p) (tt := tT X.K E tt) (tk := tE X.K E tk) (tv := tE X.K E tv) hc hNd hy hyl hsw (pi_keys (pe_var hN hv hd hcd)) ok hg ht hk he hs) (dcD_w ho)
theorem re_dc (hc : X.calm = true) (hNd : X.N.Nodup) (hi : RE X E iter mi) (ok : BlkOk X.N X.env.scope scope own) (ho : ∀ i ∈ p.slots, i ∈ own.map (·.2))
    (hg : ∀ s H C cl fp, RG (Blk X scope s H C cl fp) tg p) (ht : ∀ s H C cl fp, PTs (Blk X scope s H C cl fp) ifs (tT X.K E tt)) (hk : ∀ s H C cl fp, RE (Blk X scope s H C cl fp) E kx tk) (he : ∀ s H C cl fp, RE (Blk X scope s H C cl fp) E vx tv)
    (hs : ∀ w, foldedSetIterable iter X.env w = pure w := by intro _; rfl) : RE X E (.DictComp kx vx [⟨tg, iter, ifs, 0⟩] scope pos) (eDc z mi p tt tk tv (own.map (·.2))) :=
  re_sel (pe_weak (pe_dc (g := tG X.K p) (tt := tT X.K E tt) (tk := tE X.K E tk) (tv := tE X.K E tv) hc hNd (pi_list hi) ok hg ht hk he hs) (dcL_w ho)) (pe_weak (pe_dc (g := tG X.K p) (tt := tT X.K E tt) (tk := tE X.K E tk) (tv := tE X.K E tv) hc hNd (pi_tup hi) ok hg ht hk he hs) (dcT_w ho)) fun ρ G => dc_eq ρ G _
theorem rs_setDc {j : Nat} (hc : X.calm = true) (hNd : X.N.Nodup) (hy : X.N[j]? = some y) (hyl : X.env.scope.names.lookup y = some .local)
    (hsw : swapsWith (.DictComp kx vx [⟨tg, iter, ifs, 0⟩] scope pos) (some (.Name y py)) spos.line X.env = pure true) (hi : RE X E iter mi) (ok : BlkOk X.N X.env.scope scope own) (ho : ∀ i ∈ p.slots, i ∈ own.map (·.2))
    (hg : ∀ s H C cl fp, RG (Blk X scope s H C cl fp) tg p) (ht : ∀ s H C cl fp, PTs (Blk X scope s H C cl fp) ifs (tT X.K E tt)) (hk : ∀ s H C cl fp, RE (Blk X scope s H C cl fp) E kx tk) (he : ∀ s H C cl fp, RE (Blk X scope s H C cl fp) E vx tv)
    (hs : ∀ w, foldedSetIterable iter X.env w = pure w := by intro _; rfl) : RS X E (.Assign [.Name y py] (.DictComp kx vx [⟨tg, iter, ifs, 0⟩] scope pos) spos) (sSet j (eDc z mi p tt tk tv (own.map (·.2)))) :=
  rs_sel (ps_setAny (ps_setDc (g := tG X.K p) (tt := tT X.K E tt) (tk := tE X.K E tk) (tv := tE X.K E tv) hc hNd hy hyl hsw (pi_list hi) ok hg ht hk he hs) (dcL_w ho)) (ps_setAny (ps_setDc (g := tG X.K p) (tt := tT X.K E tt) (tk := tE X.K E tk) (tv := tE X.K E tv) hc hNd hy hyl hsw (pi_tup hi) ok hg ht hk he hs) (dcT_w ho)) fun ρ G => by
    unfold sSet
    rcases dc_eq (z := z) (mi := mi) (p := p) (tt := tt) (tk := tk) (tv := tv) ρ G (own.map (·.2)) with e | e
    · exact .inl (by rw [e])
    · exact .inr (by rw [e])
end
end R1

/-! R1w: sorted(xs), xs a list of tuples of ints. -/
namespace R1
open PySem PySem.Spec PyProof.Rows L2
/-- tuples of n + 1 ints -/
def asTups (n : Nat) : List Val → Option (List (List Int))
  | [] => some []
  | .tup l :: r => (match asInts l, asTups n r with
    | some ns, some s => if ns.length = n + 1 then some (ns :: s) else none
    | _, _ => none)
  | _ :: _ => none
def leT (a b : List Int) : Bool := decide (a ≤ b)
def sortT (l : List (List Int)) : List (List Int) := l.mergeSort leT
def tupI (l : List Int) : Val := .tup (l.map .int)
def firstLen : List Val → Nat
  | .tup l :: _ => l.length - 1
  | _ => 0
def bSortT : F1 := fun vs G => match vs with
  | [v] => (match (lstOf G v).bind fun l => asTups (firstLen l) l with
    | some ns => if ns.length ≤ sizeLine then .ok (.fro ((sortT ns).map tupI)) G else .bad
    | none => .bad)
  | _ => .bad
def rSortT (K : PySem.W.Frag) : List V → Hp → VK → Prop := fun vs H Q => ∃ (a : Addr) (bs : List (V × List Int)) (n : Nat), vs = [.ref a] ∧ SqL K H a (bs.map (·.1)) ∧ (∀ b ∈ bs, Dp K H b.1 (.tuple (b.2.map PyData.int)) ∧ b.2.length = n + 1) ∧ bs.length ≤ sizeLine ∧
  ∀ p, H p = none → Q (.ref p) (L2.upd H p (.lst ((bs.mergeSort fun x y => leT x.2 y.2).map (·.1))))
theorem alike_ints : ∀ (a b : List Int), a.length = b.length → PySem.W.alikeAll (a.map PyData.int) (b.map PyData.int) = true
  | [], [], _ => rfl
  | [], _ :: _, h => by cases h
  | _ :: _, [], h => by cases h
  | a :: as, b :: bs, h => by
    have ih := alike_ints as bs (Nat.succ.inj h)
    simp [PySem.W.alikeAll, PySem.W.alike, ih]
theorem depth_ints (l : List Int) : (PyData.tuple (l.map PyData.int)).depth ≤ 1 := by
  have h : PyData.depthAll (l.map PyData.int) ≤ 0 := depth_all _ _ fun d hd => by
    obtain ⟨i, _, rfl⟩ := List.mem_map.mp hd
    exact Nat.le_refl _
  show PyData.depthAll (l.map PyData.int) + 1 ≤ 1
  omega
theorem dataLe_tups {β : Type} (x : β → List Int) : (PySem.W.dataLe false fun b => PyData.tuple ((x b).map PyData.int)) = fun p q => leT (x p) (x q) := by
  have h := PySem.W.dataLe_rows x
  exact h
theorem eachIs_of {α β : Type} {R : α → β → Prop} : ∀ {as : List α} {bs : List β}, PySem.W.EachIs R as bs → as.length = bs.length
  | _, _, .nil => rfl
  | _, _, .cons _ h => congrArg Nat.succ (eachIs_of h)
theorem each_vals {K : PySem.W.Frag} {H : Hp} : ∀ {bs : List (V × List Int)} {us : List Value}, Vals (bs.map (·.1)) us → PySem.W.EachIs (fun (u : Value) (b : V × List Int) => L2.RelV b.1 u) us bs
  | [], us, h => by cases h; exact .nil
  | b :: bs, us, h => by
    cases h with
    | cons r h => exact .cons r (each_vals (K := K) (H := H) h)
theorem vals_each : ∀ {bs : List (V × List Int)} {us : List Value}, PySem.W.EachIs (fun (u : Value) (b : V × List Int) => L2.RelV b.1 u) us bs → Vals (bs.map (·.1)) us
  | [], us, h => by cases h; exact .nil
  | b :: bs, us, h => by
    cases h with
    | cons r h => exact .cons r (vals_each h)
theorem each_reads {X : Cx} {pins : List (Addr × Obj)} {σ : L2.St} {H : Hp} {s : Shared} (I : L2.Inv X pins σ H s) : ∀ {bs : List (V × List Int)} {us : List Value}, (∀ b ∈ bs, Dp X.K H b.1 (.tuple (b.2.map PyData.int))) → PySem.W.EachIs (fun (u : Value) (b : V × List Int) => L2.RelV b.1 u) us bs →
    PySem.W.EachIs (fun (u : Value) (b : V × List Int) => ∃ as, Reads s.heap u (.tuple (b.2.map PyData.int)) as) us bs
  | [], us, _, h => by cases h; exact .nil
  | b :: bs, us, hd, h => by
    cases h with
    | cons r h => exact .cons (Dp.reads I _ _ _ (hd b (List.mem_cons_self ..)) r) (each_reads I (fun c hc => hd c (List.mem_cons_of_mem _ hc)) h)
theorem cr_sortT {X : Cx} (hu : X.A.units + 64 < cLine) : CallR X (.builtin "sorted") (rSortT X.K) := by
  intro pins s σ H vs us Q I r ⟨a, bs, n, e, hs, hd, hz, q⟩
  subst e
  obtain ⟨its, rv, hl, hz'⟩ := Inv.list I hs
  rw [r.ref1]
  have ev := each_vals (K := X.K) (H := H) rv
  refine PySem.W.sorted_data (bs := bs) (enc := fun b => .tuple (b.2.map PyData.int)) (R := fun u b => L2.RelV b.1 u) hl.isList ev (each_reads I (fun b hb => (hd b hb).1) ev) ?_ ?_ hz ?_ fun out h1 h2 => ?_
  · intro d hd1 d' hd2
    obtain ⟨b, hb, rfl⟩ := List.mem_map.mp hd1
    obtain ⟨c, hc, rfl⟩ := List.mem_map.mp hd2
    exact alike_ints _ _ ((hd b hb).2.trans (hd c hc).2.symm)
  · refine .inl fun d hd1 => ?_
    obtain ⟨b, hb, rfl⟩ := List.mem_map.mp hd1
    have hl := (hd b hb).2
    cases e : b.2 with
    | nil => rw [e] at hl; cases hl
    | cons x r => exact ⟨.int x, r.map PyData.int, rfl⟩
  · intro b _
    have := depth_ints b.2
    omega
  · rw [dataLe_tups] at h2
    obtain ⟨ep, he⟩ := PyProof.Rows.sortedAll_at s.heap its out.toArray
    have rv2 := vals_each h2
    refine ⟨.ref (s.heap.objs.size + 1), _, Inv.laid (o := .lst ((bs.mergeSort fun x y => leT x.2 y.2).map (·.1))) I (fun _ _ => PyProof.Rows.sortedAll_old) (Nat.le_succ _) ⟨?_, out, ep, rv2, he⟩, rfl, q _ (HOk.fresh I.hok (Nat.le_succ _))⟩
    rw [List.length_map, List.length_mergeSort]
    exact hz
section
variable {K : PySem.W.Frag} {E : XK} {ι : Vw} {n : Nat} {G : Store} {H : Hp}
theorem toD_intsT (k : Nat) : ∀ {l : List Val} {ns : List Int}, asInts l = some ns → optAll (toD G k) l = some (ns.map PyData.int)
  | [], ns, h => by cases h; rfl
  | v :: l, ns, h => by
    cases v with
    | int i =>
      have h0 : (asInts l).map (i :: ·) = some ns := h
      cases e : asInts l with
      | none => rw [e] at h0; cases h0
      | some ms =>
        rw [e] at h0
        cases h0
        have e1 : toD G k (Val.int i) = some (.int i) := by cases k <;> rfl
        unfold optAll
        rw [e1, toD_intsT k e]
        rfl
    | _ => cases h
theorem asInts_eq : ∀ {l : List Val} {ns : List Int}, asInts l = some ns → l = ns.map Val.int
  | [], ns, h => by cases h; rfl
  | v :: l, ns, h => by
    cases v with
    | int i =>
      have h0 : (asInts l).map (i :: ·) = some ns := h
      cases e : asInts l with
      | none => rw [e] at h0; cases h0
      | some ms =>
        rw [e] at h0
        cases h0
        rw [asInts_eq e]
        rfl
    | _ => cases h
/-- the list's tuples on the heap, with what they hold -/
theorem tups_at (S : Sim K ι G H) : ∀ {l : List Val} {xs : List V} {ns : List (List Int)}, asTups n l = some ns → Reps K ι G.length H l xs → ∃ bs : List (V × List Int), bs.map (·.1) = xs ∧ bs.map (·.2) = ns ∧ ∀ b ∈ bs, Dp K H b.1 (.tuple (b.2.map PyData.int)) ∧ b.2.length = n + 1 ∧ Rep K ι G.length H (tupI b.2) b.1
  | [], xs, ns, h, r => by
    cases h
    rw [show xs = [] from r]
    exact ⟨[], rfl, rfl, fun b hb => (by cases hb)⟩
  | v :: l, xs, ns, h, ⟨y, ys, e, r1, r2⟩ => by
    cases v with
    | tup m =>
      unfold asTups at h
      cases e1 : asInts m with
      | none => rw [e1] at h; cases h
      | some ms =>
        cases e2 : asTups n l with
        | none => rw [e1, e2] at h; cases h
        | some s =>
          rw [e1, e2] at h
          dsimp only at h
          by_cases hl : ms.length = n + 1
          · rw [if_pos hl] at h
            cases h
            obtain ⟨bs, h1, h2, h3⟩ := tups_at S e2 r2
            rw [e]
            refine ⟨(y, ms) :: bs, by rw [List.map_cons, h1], by rw [List.map_cons, h2], fun b hb => ?_⟩
            rcases List.mem_cons.mp hb with rfl | hb
            · refine ⟨dp_of S dEq (.tup m) y _ r1 ?_, hl, ?_⟩
              · show (optAll (toD G 39) m).map PyData.tuple = _
                rw [toD_intsT _ e1]
                rfl
              · unfold tupI
                rw [← asInts_eq e1]
                exact r1
            · exact h3 b hb
          · rw [if_neg hl] at h
            cases h
    | _ => cases h
theorem tups_reps : ∀ {bs : List (V × List Int)}, (∀ b ∈ bs, Rep K ι n H (tupI b.2) b.1) → Reps K ι n H ((bs.map (·.2)).map tupI) (bs.map (·.1))
  | [], _ => rfl
  | b :: bs, h => ⟨b.1, bs.map (·.1), rfl, h b (List.mem_cons_self ..), tups_reps fun c hc => h c (List.mem_cons_of_mem _ hc)⟩
theorem s_sortT : CallS K E (rSortT K) bSortT := fun ι G H vs xs Q S rs p => by
  unfold bSortT at p
  cases vs with
  | nil => exact p.elim
  | cons v l =>
    cases l with
    | cons _ _ => exact p.elim
    | nil =>
      dsimp only at p
      cases e : lstOf G v with
      | none => rw [e] at p; exact p.elim
      | some l =>
        rw [e] at p
        dsimp only [Option.bind] at p
        cases e2 : asTups (firstLen l) l with
        | none => rw [e2] at p; exact p.elim
        | some ns =>
          rw [e2] at p
          dsimp only at p
          by_cases hz : ns.length ≤ sizeLine
          · rw [if_pos hz] at p
            obtain ⟨x, rfl, rx⟩ := reps1 rs
            obtain ⟨a, ys, ex, h1, h2⟩ := lstOf_at S rx e
            obtain ⟨bs, b1, b2, b3⟩ := tups_at S e2 h2
            refine ⟨a, bs, firstLen l, by rw [ex], by rw [b1]; exact .of h1, fun b hb => ⟨(b3 b hb).1, (b3 b hb).2.1⟩, by rw [← b2, List.length_map] at hz; exact hz, ?_⟩
            refine post_fro (l := (sortT ns).map tupI) S ?_ p
            have e3 : sortT ns = (bs.mergeSort fun x y => leT x.2 y.2).map (·.2) := by
              unfold sortT
              rw [← b2]
              exact (List.map_mergeSort (r := fun x y : V × List Int => leT x.2 y.2) (s := leT) (f := fun b : V × List Int => b.2) (fun _ _ _ _ => rfl)).symm
            rw [e3]
            exact tups_reps fun b hb => (b3 b (List.mem_mergeSort.mp hb)).2.2
          · rw [if_neg hz] at p
            exact p.elim
end
/-- sorted: of ints, of a dict's int keys, of tuples of ints -/
def bSortX : F1 := orF1 bSortA bSortT
end R1

/-! R1x: what printed proofs name besides. -/
namespace R1
open PySem PySem.Spec PyProof.Rows L2
theorem sw_trueD {kx vx : PySem.Expr} {gs : List Comprehension} {scope : PySem.Scope} {pos py : Pos} {y : Str} {l : Nat} {env : PySem.Env} (h1 : env.scope.kind = ScopeKind.function) (h2 : List.lookup y env.scope.names = some NameKind.local) (h3 : (py.line == pos.line) = true)
    (h4 : (scope.names.any fun x => match x with | (n, k) => n == y && (k == NameKind.local || k == NameKind.cell)) = false) : swapsWith (.DictComp kx vx gs scope pos) (some (.Name y py)) l env = pure true := by
  have h := L2.sw_true (elt := kx) (gs := gs) (scope := scope) (pos := pos) (py := py) (y := y) (l := l) (env := env) h1 h2 h3 h4
  exact h
end R1

/-! R1y: sorted(d.items()), d a dict with int keys and int values. -/
namespace R1
open PySem PySem.Spec PyProof.Rows L2
theorem laid2 {X : Cx} {pins : List (Addr × Obj)} {σ : L2.St} {H : Hp} {s : Shared} {h' : Heap} {tk : Nat} {kvs : List (Key × V)} {S : Addr} {out : List Value} {ys : List V} {as : List Addr} {c : Nat} (I : L2.Inv X pins σ H s)
    (hk : ∀ b o, s.heap.get? b = some o → h'.get? b = some o) (hS : h'.get? S = some { cls := .type "list", data := .seq out.toArray c }) (hSs : s.heap.objs.size ≤ S) (hSn : S ∉ as) (nd : as.Nodup) (ab : ∀ a ∈ as, s.heap.objs.size ≤ a) (hl : as.length = kvs.length)
    (tp : ∀ (j : Nat) (a : Addr), as[j]? = some a → ∃ (kv : Key × V) (key x : Value), kvs[j]? = some kv ∧ L2.RelV (kV kv.1) key ∧ L2.RelV kv.2 x ∧ h'.get? a = some { cls := .type "tuple", data := .seq #[key, x] }) (rv : Vals ys out) (hy : ys.length ≤ sizeLine) :
    L2.Inv X pins σ (LiI.putT (L2.upd H S (.lst ys)) as kvs) { heap := h', gens := s.gens, drawn := s.drawn, toks := tk, os := s.os } := by
  have atP := LiI.putT_at as kvs (L2.upd H S (.lst ys)) hl nd
  have off : ∀ b, b ∉ as → b ≠ S → LiI.putT (L2.upd H S (.lst ys)) as kvs b = H b := fun b h1 h2 => by rw [LiI.putT_off as kvs _ h1, upd_ne h2]
  have low : ∀ b o, s.heap.get? b = some o → b ∉ as ∧ b ≠ S := fun b o e => ⟨fun z => absurd (Heap.lt_size e) (Nat.not_lt.mpr (ab b z)), fun z => absurd (Heap.lt_size e) (Nat.not_lt.mpr (by rw [z]; exact hSs))⟩
  have kp : ∀ b u, H b = some u → LiI.putT (L2.upd H S (.lst ys)) as kvs b = some u := fun b u e => by
    rw [off b (fun z => ?_) (fun z => ?_)]
    · exact e
    · have := HOk.fresh I.hok (ab b z)
      rw [this] at e
      cases e
    · have := HOk.fresh I.hok hSs
      rw [z, this] at e
      cases e
  have eS : LiI.putT (L2.upd H S (.lst ys)) as kvs S = some (.lst ys) := by rw [LiI.putT_off as kvs _ hSn, upd_same]
  refine Inv.call' (ch := []) I rfl ⟨?_, ?_, ?_, ?_, ?_, ?_, ?_⟩ ?_ ?_ ?_
  · intro b o q _ _ _
    exact hk b o q
  · intro b o q _ _ _
    exact ⟨o.slots, hk b o q⟩
  · intro b o q n _
    obtain ⟨z1, z2⟩ := low b o q
    rw [off b z1 z2]
    exact n
  · intro b o q _
    exact ⟨o, hk b o q⟩
  · intro b xs q
    exact kp b _ q
  · intro b o u q
    exact kp b _ q
  · intro b ps q
    exact ⟨#[], by rw [kp b _ q]; simp⟩
  · intro b u q
    by_cases hb : b ∈ as
    · obtain ⟨j, pk, e1, e2, e3⟩ := LiI.paired_ix atP hb
      rw [e3] at q
      cases q
      obtain ⟨kv, key, x, f1, f2, f3, f4⟩ := tp j b e1
      rw [e2] at f1
      cases f1
      exact ⟨(by decide : 2 ≤ sizeLine), [key, x], .cons f2 (.cons f3 .nil), _, f4, rfl, 0, rfl⟩
    · by_cases hb2 : b = S
      · rw [hb2] at q ⊢
        rw [eS] at q
        cases q
        exact ⟨hy, out, c, rv, hS⟩
      · rw [off b hb hb2] at q
        exact (I.hok b u q).stay (fun b u _ h => hk b u h) (fun b h => kp b _ h) (fun b xs h => kp b _ h)
  · exact I.bare
  · intro b hb
    cases hb
/-- the pairs of a dict's entries, sorted -/
def rSItems : V → Hp → VK → Prop := fun x H Q => ∃ (d : Addr) (ps : List (Int × Int)), x = .ref d ∧ ps.length ≤ sizeLine ∧ Rd H d (.dK (ps.map fun p => (.inl p.1, .int p.2))) ∧
  ∀ (H' : Hp) (S : Addr) (bs : List (Addr × Int × Int)), (∀ b o, H b = some o → H' b = some o) → H S = none → H' S = some (.lst (bs.map fun b => V.ref b.1)) → bs.map (·.2) = ps.mergeSort (fun a b => leT [a.1, a.2] [b.1, b.2]) →
    (∀ b ∈ bs, H' b.1 = some (.tup [.int b.2.1, .int b.2.2])) → Q (.ref S) H'
def tSItems (te : TE) : TE := fun σ H Q => te σ H fun x H1 => rSItems x H1 Q
theorem eachV : ∀ {bs : List (Addr × Int × Int)} {out : List Value}, PySem.W.EachIs (fun (v : Value) (b : Addr × Int × Int) => v = .ref b.1) out bs → Vals (bs.map fun b => V.ref b.1) out
  | [], _, h => by cases h; exact .nil
  | b :: bs, _, h => by
    cases h with
    | cons r h => exact .cons r (eachV h)
theorem pair_at {P : Program} {w : World} : ∀ {l : List DictEntry} {vs : List (Key × Value)} {ps : List (Int × Int)} {j : Nat} {e : DictEntry}, Pairs (mixKind P w) l vs → KV (ps.map fun p => ((.inl p.1 : Key), V.int p.2)) vs → l[j]? = some e →
    ∃ p, ps[j]? = some p ∧ (∃ t, e.key = .int p.1 t) ∧ ∃ t, e.val = .int p.2 t
  | [], _, _, _, _, _, _, h => by simp at h
  | e0 :: l, vs, ps, j, e, hp, hk, h => by
    cases hp with
    | cons h1 h2 h3 =>
      rename_i kv kvs
      cases ps with
      | nil => cases hk
      | cons p ps =>
        cases hk with
        | cons g1 g2 =>
          cases j with
          | zero =>
            rw [List.getElem?_cons_zero] at h
            cases h
            refine ⟨p, rfl, ?_, ?_⟩
            · have e1 := L2.relV_key (k := kv.1) h1
              rw [← g1.1] at e1
              exact e1
            · have e1 := g1.2
              rw [← h2] at e1
              exact e1
          | succ j =>
            rw [List.getElem?_cons_succ] at h ⊢
            exact pair_at h3 g2 h
theorem each_zip {as : List Addr} {ps : List (Int × Int)} (h : as.length = ps.length) : PySem.W.EachIs (fun (v : Value) (b : Addr × Int × Int) => v = .ref b.1) (as.map Value.ref) (as.zip ps) := by
  induction as generalizing ps with
  | nil => cases ps with
    | nil => exact .nil
    | cons _ _ => cases h
  | cons a as ih => cases ps with
    | nil => cases h
    | cons p ps => exact .cons rfl (ih (Nat.succ.inj h))
theorem each_of {α β : Type} {R : α → β → Prop} : ∀ {as : List α} {bs : List β}, as.length = bs.length → (∀ (j : Nat) a b, as[j]? = some a → bs[j]? = some b → R a b) → PySem.W.EachIs R as bs
  | [], [], _, _ => .nil
  | a :: as, b :: bs, h, k => .cons (k 0 a b rfl rfl) (each_of (Nat.succ.inj h) fun j x y h1 h2 => k (j + 1) x y h1 h2)
theorem dataLe_pairs : (PySem.W.dataLe false fun b : Addr × Int × Int => PyData.tuple [.int b.2.1, .int b.2.2]) = fun p q => leT [p.2.1, p.2.2] [q.2.1, q.2.2] := dataLe_tups fun b : Addr × Int × Int => [b.2.1, b.2.2]
theorem pe_sortItems {X : Cx} {e : Expr} {te : TE} {p apos cpos pos : Pos} (hu : X.A.units + 64 < cLine) (hc : X.calm = true) (he : PE X e te) (hg : Gl X "sorted") (hm : X.mg "sorted" = none) (hv : bootBuiltins "sorted" = some (.builtin "sorted") := by decide +kernel)
    (hbase : attributeBase e "items" X.env (eval e X.env) = eval e X.env := by rfl) (hline : (apos.endLine == cpos.line) = true := by rfl) (hs : starEach [.Call (.Attribute e "items" apos) [] [] cpos] X.env = (false, eval (.Call (.Attribute e "items" apos) [] [] cpos) X.env) :: starEach [] X.env := by rfl) :
    PE X (.Call (.Name "sorted" p) [.Call (.Attribute e "items" apos) [] [] cpos] [] pos) (tSItems te) := by
  refine ⟨fun pins s σ H Q I hq => wpAny_Call_Name_kw (ld_blt I hg hm hv (PyProof.Rows.callWith_builtin1 ?_ hs rfl))⟩
  rw [hs]
  refine Calls.spliced_cons (wpAny_Call_method hbase rfl hline F.plainAttrs_dict F.slot_dict_items F.type_dict_items (thn (he.run pins s σ H (fun x H1 => rSItems x H1 Q) I hq) fun u s1 ⟨x, H1, I1, rx, d, ps, ex, hz, hd, q⟩ => ?_))
  subst ex
  have eu : u = .ref d := rx
  subst eu
  obtain ⟨hs0, vs, kv, hdo⟩ := rd_dic I1 hd
  obtain ⟨o, es, ep, g1, g2, g3, g4, g5, g6⟩ := id hdo
  have lk := kv.length
  have I2 := Inv.kept (t' := s1.toks) I1 fun b ob q => Heap.get?_push_of_some { cls := .type "dict_items", data := .fields #[.ref d] } q
  have les : es.size = ps.length := by
    have h1 : ∀ {l : List DictEntry} {vs : List (Key × Value)}, Pairs (mixKind X.prog X.w) l vs → l.length = vs.length := fun {l} => by
      induction l with
      | nil => intro vs h; cases h; rfl
      | cons a l ih => intro vs h; cases h with | cons _ _ h => exact congrArg Nat.succ (ih h)
    have h2 := h1 g5
    rw [Array.length_toList] at h2
    rw [h2, ← lk, List.length_map]
  refine ⟨hdo.typeIs, hdo.mapOf.noDict, ?_⟩
  refine method_meetsIn F.slot_dict_items F.entry_dict_items rfl (PySem.evalArgs_none ⟨rfl, hdo.typeIs, F.args_dict_items_1 _, _, meets_dict_items (mixKind X.prog X.w) d hs0, ⟨vs, hdo⟩, Calls.spliced_nil ?_⟩)
  refine DT.sortedI (I1.ok.hd hc) ⟨_, Heap.get?_push_size s1.1 rfl, rfl, rfl⟩ (es := es) (ep := ep) ⟨o, Heap.get?_push_of_some _ g1, g2, g3⟩ (by rw [les]; exact hz) fun h' tk as hk hlt hl hM => ?_
  have hl2 : as.length = ps.length := hl.trans les
  have tup : ∀ (j : Nat) (a : Addr) (p : Int × Int), as[j]? = some a → ps[j]? = some p → ∃ k v, (∃ t, k = Value.int p.1 t) ∧ (∃ t, v = Value.int p.2 t) ∧ h'.get? a = some { cls := .type "tuple", data := .seq #[k, v] } := fun j a p h1 h2 => by
    obtain ⟨en, e1, e2⟩ := hM.pairs j a h1
    obtain ⟨p', f1, f2, f3⟩ := pair_at (j := j) (e := en) g5 kv (by rw [Array.getElem?_toList]; exact e1)
    rw [h2] at f1
    cases f1
    exact ⟨_, _, f2, f3, e2⟩
  have gS : (h'.push { cls := .type "list", data := .seq (as.map Value.ref).toArray }).get? h'.objs.size = some (PyProof.Rows.seqObj "list" (as.map Value.ref).toArray 0) := Heap.get?_push_size h' rfl
  have gold : ∀ {a : Addr} {ob : Obj}, h'.get? a = some ob → (h'.push { cls := .type "list", data := .seq (as.map Value.ref).toArray }).get? a = some ob := fun h => Heap.get?_push_of_some _ h
  refine PySem.W.list_sort_data (bs := as.zip ps) (enc := fun b : Addr × Int × Int => PyData.tuple [.int b.2.1, .int b.2.2]) (R := fun v b => v = .ref b.1) gS (each_zip hl2) (each_of (by simp [hl2]) fun j v b h1 h2 => ?_) ?_ ?_ (by simp [hl2]; exact hz) ?_ fun out h1 h2 => ?_
  · rw [List.getElem?_map] at h1
    rw [List.getElem?_zip_eq_some] at h2
    obtain ⟨a1, a2⟩ := h2
    rw [a1] at h1
    cases h1
    obtain ⟨k, v, ⟨t, rfl⟩, ⟨t', rfl⟩, e⟩ := tup j b.1 b.2 a1 a2
    exact ⟨_, .tuple (gold e) rfl rfl (.cons (.int _ _) (.cons (.int _ _) .nil)), by simp⟩
  · intro d1 hd1 d2 hd2
    obtain ⟨b1, _, rfl⟩ := List.mem_map.mp hd1
    obtain ⟨b2, _, rfl⟩ := List.mem_map.mp hd2
    exact alike_ints [b1.2.1, b1.2.2] [b2.2.1, b2.2.2] rfl
  · refine .inl fun d1 hd1 => ?_
    obtain ⟨b1, _, rfl⟩ := List.mem_map.mp hd1
    exact ⟨_, _, rfl⟩
  · intro b _
    have := depth_ints [b.2.1, b.2.2]
    show X.A.units + 1 + 1 + (PyData.tuple ([b.2.1, b.2.2].map PyData.int)).depth < cLine
    omega
  · rw [dataLe_pairs] at h2
    obtain ⟨c, eS⟩ := PyProof.Rows.sortedHeap_at (out := out.toArray) gS
    have ef : ∀ {a : Addr} {ob : Obj}, h'.get? a = some ob → (PyProof.Rows.sortedHeap (h'.push { cls := .type "list", data := .seq (as.map Value.ref).toArray }) h'.objs.size (as.map Value.ref) out.toArray).get? a = some ob := fun {a ob} h => by
      have hlt := Heap.lt_size h
      rw [PyProof.Rows.sortedHeap_old (Nat.ne_of_lt hlt) (Nat.lt_trans hlt (Heap.lt_size gS))]
      exact gold h
    have lt_as : ∀ a ∈ as, a < h'.objs.size := fun a ha => by
      obtain ⟨j, hj⟩ := List.getElem?_of_mem ha
      have hjl := (List.getElem?_eq_some_iff.mp hj).1
      obtain ⟨k, v, _, _, e⟩ := tup j a ps[j] hj (List.getElem?_eq_getElem (by omega))
      exact Heap.lt_size e
    have len2 : (s1.heap.push { cls := .type "dict_items", data := .fields #[.ref d] }).objs.size = s1.heap.objs.size + 1 := by simp [Heap.push]
    have rv := eachV h2
    have I3 := laid2 (kvs := ps.map fun p => ((.inl p.1 : Key), V.int p.2)) (S := h'.objs.size) (as := as) (tk := tk) I2 (fun b ob h => ef (hk b ob h)) eS (Nat.le_of_lt hlt) (fun z => Nat.lt_irrefl _ (lt_as _ z)) (hM.rise.imp fun h => Nat.ne_of_lt h) (fun a ha => Nat.le_of_lt (hM.above a ha)) (by simp [hl2]) (fun j a h => by
      have hjl := (List.getElem?_eq_some_iff.mp h).1
      obtain ⟨k, v, f1, f2, f3⟩ := tup j a ps[j] h (List.getElem?_eq_getElem (by omega))
      exact ⟨((.inl ps[j].1 : Key), V.int ps[j].2), k, v, by rw [List.getElem?_map, List.getElem?_eq_getElem (by omega)]; rfl, f1, f2, ef f3⟩) rv (by rw [List.length_map, List.length_mergeSort]; simp [hl2]; exact hz)
    refine ⟨.ref h'.objs.size, _, I3, rfl, q _ _ ((as.zip ps).mergeSort fun p q => leT [p.2.1, p.2.2] [q.2.1, q.2.2]) (fun b ob hb => ?_) (HOk.fresh I2.hok (Nat.le_of_lt hlt)) ?_ ?_ fun b hb => ?_⟩
    · have fr : ∀ a, (s1.heap.push { cls := .type "dict_items", data := .fields #[.ref d] }).objs.size ≤ a → b ≠ a := fun a h e => by
        have := HOk.fresh I2.hok h
        rw [← e, hb] at this
        cases this
      rw [LiI.putT_off as _ _ (fun z => fr b (Nat.le_of_lt (hM.above b z)) rfl), upd_ne (fr _ (Nat.le_of_lt hlt))]
      exact hb
    · rw [LiI.putT_off as _ _ (fun z => Nat.lt_irrefl _ (lt_as _ z)), upd_same]
    · have e1 : (as.zip ps).map (·.2) = ps := List.map_snd_zip (by omega)
      rw [List.map_mergeSort (s := fun a b : Int × Int => leT [a.1, a.2] [b.1, b.2]) (fun _ _ _ _ => rfl), e1]
    · have hb2 := List.mem_mergeSort.mp hb
      obtain ⟨j, hj⟩ := List.getElem?_of_mem hb2
      rw [List.getElem?_zip_eq_some] at hj
      have atP := LiI.putT_at as (ps.map fun p => ((.inl p.1 : Key), V.int p.2)) (L2.upd H1 h'.objs.size (.lst (((as.zip ps).mergeSort fun p q => leT [p.2.1, p.2.2] [q.2.1, q.2.2]).map fun b => V.ref b.1))) (by simp [hl2]) (hM.rise.imp fun h => Nat.ne_of_lt h)
      obtain ⟨y, y1, y2⟩ := LiI.paired_get atP hj.1
      rw [List.getElem?_map, hj.2] at y1
      cases y1
      exact y2

section
variable {K : PySem.W.Frag} {ι : Vw} {n : Nat} {G : Store} {H H' : Hp}
/-- the heap has grown -/
theorem Sim.grow (S : Sim K ι G H) (h : ∀ b o, H b = some o → H' b = some o) : Sim K ι G H' ∧ Ext K ι G.length H ι G.length H' := by
  have x : Ext K ι G.length H ι G.length H' := ⟨Nat.le_refl _, fun _ _ => rfl, fun a xs q => by
    rcases q with (q | ⟨z, q⟩) | q
    · exact .inl (.inl (h _ _ q))
    · exact .inl (.inr ⟨z, h _ _ q⟩)
    · exact .inr q, fun a xs q => ⟨h _ _ q.1, q.2⟩, fun a xs q => ⟨q.1.imp (h _ _) fun ⟨o, w⟩ => ⟨o, h _ _ w⟩, q.2⟩, fun a o u q => h _ _ q, fun a u h1 h2 h3 => ⟨h _ _ h3, h1, h2⟩⟩
  exact ⟨⟨S.inj, S.mu, fun a ha => (S.dom a ha).imp fun u hu => h _ _ hu, fun i o e => (S.obj i o e).ext x fun v hv => h _ _ hv⟩, x⟩
end
/-- a dict's pairs, ints all -/
def intPairs : List (Ky × Val) → Option (List (Int × Int))
  | [] => some []
  | (.inl k, .int i) :: l => (match intPairs l with
    | some r => some ((k, i) :: r)
    | none => none)
  | _ => none
/-- sorted(d.items()) -/
def eSortIt (m : EM) : EM := fun ρ G => (m ρ G).bind fun v G1 => match (dicOf G1 v).bind intPairs with
  | some ps => if ps.length ≤ sizeLine then .ok (.fro ((sortT (ps.map fun p => [p.1, p.2])).map tupI)) G1 else .bad
  | none => .bad
theorem intPairs_reps {K : PySem.W.Frag} {ι : Vw} {n : Nat} {H : Hp} : ∀ {l : List (Ky × Val)} {xs : List (Key × V)} {ps : List (Int × Int)}, intPairs l = some ps → KReps K ι n H l xs → xs = ps.map fun p => ((.inl p.1 : Key), V.int p.2)
  | [], xs, ps, h, r => by
    cases h
    exact r
  | (k, v) :: l, xs, ps, h, ⟨y, ys, e, r1, r2⟩ => by
    cases k with
    | inr k => cases h
    | inl k =>
      cases v with
      | int i =>
        unfold intPairs at h
        cases e1 : intPairs l with
        | none => rw [e1] at h; cases h
        | some r =>
          rw [e1] at h
          cases h
          rw [e, intPairs_reps e1 r2, show y = .int i from r1]
          rfl
      | _ => cases h
theorem re_sortIt {X : Cx} {E : XK} {e : Expr} {m : EM} {p apos cpos pos : Pos} (hu : X.A.units + 64 < cLine) (hc : X.calm = true) (hg : Gl X "sorted") (hm : X.mg "sorted" = none) (he : RE X E e m) (hv : bootBuiltins "sorted" = some (.builtin "sorted") := by decide +kernel)
    (hbase : attributeBase e "items" X.env (eval e X.env) = eval e X.env := by rfl) (hline : (apos.endLine == cpos.line) = true := by rfl) (hs : starEach [.Call (.Attribute e "items" apos) [] [] cpos] X.env = (false, eval (.Call (.Attribute e "items" apos) [] [] cpos) X.env) :: starEach [] X.env := by rfl) :
    RE X E (.Call (.Name "sorted" p) [.Call (.Attribute e "items" apos) [] [] cpos] [] pos) (eSortIt m) := by
  refine pe_weak (pe_sortItems hu hc he hg hm hv hbase hline hs) fun σ H Q ⟨ι, G, ρ, S, sl, q⟩ => run1 S sl ((Post.bind q).mono fun ι1 G1 H1 v x1 S1 q1 x rx => ?_)
  cases e1 : dicOf G1 v with
  | none => rw [e1] at q1; exact q1.elim
  | some l =>
    rw [e1] at q1
    dsimp only [Option.bind] at q1
    cases e2 : intPairs l with
    | none => rw [e2] at q1; exact q1.elim
    | some ps =>
      rw [e2] at q1
      dsimp only at q1
      by_cases hz : ps.length ≤ sizeLine
      · rw [if_pos hz] at q1
        obtain ⟨a, xs, ex, h1, h2⟩ := dicOf_at S1 rx e1
        rw [intPairs_reps e2 h2] at h1
        refine ⟨a, ps, ex, hz, h1, fun H' T bs g1 g2 g3 g4 g5 => ?_⟩
        obtain ⟨S2, x2⟩ := S1.grow g1
        have e3 : sortT (ps.map fun p => [p.1, p.2]) = bs.map fun b => [b.2.1, b.2.2] := by
          unfold sortT
          rw [← List.map_mergeSort (r := fun a b : Int × Int => leT [a.1, a.2] [b.1, b.2]) (s := leT) (f := fun p : Int × Int => [p.1, p.2]) (fun _ _ _ _ => rfl), ← g4, List.map_map]
          rfl
        refine q1 ι1 H' x2 S2 (.ref T) ⟨T, _, rfl, ⟨g3, S1.nm g2⟩, ?_⟩
        rw [e3, List.map_map]
        have rr : ∀ bs : List (Addr × Int × Int), (∀ b ∈ bs, H' b.1 = some (.tup [.int b.2.1, .int b.2.2])) → Reps X.K ι1 G1.length H' (bs.map (tupI ∘ fun b => [b.2.1, b.2.2])) (bs.map fun b => V.ref b.1) := fun bs => by
          induction bs with
          | nil => intro _; exact rfl
          | cons b bs ih =>
            intro g
            refine ⟨.ref b.1, bs.map fun b => V.ref b.1, rfl, ?_, ih fun c hc => g c (List.mem_cons_of_mem _ hc)⟩
            exact ⟨b.1, _, rfl, .of (g b (List.mem_cons_self ..)), ⟨_, _, rfl, rfl, ⟨_, _, rfl, rfl, rfl⟩⟩⟩
        exact rr bs g5
      · rw [if_neg hz] at q1
        exact q1.elim
end R1

/-! R1z: a dict of the module, its keys texts: in, not in, [..], get. -/
namespace R1
open PySem PySem.Spec PyProof.Rows L2
/-- the module's dict x: what stands at the words below N -/
def dctF (x : Str) (l : List (Nat × Val)) (N : Nat) : PySem.W.Frag → Bool := fun K => (List.range N).all fun k => match PySem.W.nsIn K (He.ga K x) (nm k), l.lookup k with
  | some (some u), some v => datB K v u
  | some none, none => true
  | _, _ => false
theorem dctF_at {K : PySem.W.Frag} {x : Str} {l : List (Nat × Val)} {N k : Nat} (h : dctF x l N K = true) (hk : k < N) : (∃ u v, PySem.W.nsIn K (He.ga K x) (nm k) = some (some u) ∧ l.lookup k = some v ∧ datB K v u = true) ∨ (PySem.W.nsIn K (He.ga K x) (nm k) = some none ∧ l.lookup k = none) := by
  unfold dctF at h
  have h1 := List.all_eq_true.mp h k (List.mem_range.mpr hk)
  cases e1 : PySem.W.nsIn K (He.ga K x) (nm k) with
  | none => rw [e1] at h1; cases h1
  | some o =>
    rw [e1] at h1
    cases o with
    | none =>
      cases e2 : l.lookup k with
      | none => exact .inr ⟨rfl, rfl⟩
      | some v => rw [e2] at h1; cases h1
    | some u =>
      cases e2 : l.lookup k with
      | none => rw [e2] at h1; cases h1
      | some v => rw [e2] at h1; exact .inl ⟨u, v, rfl, rfl, h1⟩
def eKin (neg : Bool) (l : List (Nat × Val)) (N : Nat) (m : EM) : EM := fun ρ G => (m ρ G).bind fun v G1 => match v with
  | .str k => if k < N then .ok (.bl (neg != (l.lookup k).isSome)) G1 else .bad
  | _ => .bad
def eKix (l : List (Nat × Val)) (N : Nat) (m : EM) : EM := fun ρ G => (m ρ G).bind fun v G1 => match v with
  | .str k => if k < N then (match l.lookup k with
    | some v => .ok v G1
    | none => .bad) else .bad
  | _ => .bad
def eKget (l : List (Nat × Val)) (N : Nat) (m : EM) : EM := fun ρ G => (m ρ G).bind fun v G1 => match v with
  | .str k => if k < N then .ok ((l.lookup k).getD .non) G1 else .bad
  | _ => .bad
theorem datB_val {K : PySem.W.Frag} {v : Val} {u : Value} (h : datB K v u = true) : ∃ x, RelV x u ∧ ∀ (ι : Vw) (n : Nat) (H : Hp), Rep K ι n H v x := by
  obtain ⟨x0, r0, _⟩ := datB_ok (ι := ⟨fun _ => 0, fun _ => False⟩) (n := 0) (H := fun _ => none) h
  refine ⟨x0, r0, fun ι n H => ?_⟩
  obtain ⟨x1, r1, r2⟩ := datB_ok (ι := ι) (n := n) (H := H) h
  rw [← relV_inj r1 r0]
  exact r2
section
variable {fa : List He.Fa} {fn : List He.DefD} {fx : List (PySem.W.Frag → Bool)} {ts : List He.Tab} {X : Cx} {E : XK} {a : Expr} {ma : EM} {x : Str} {p pos apos cpos : Pos} {l : List (Nat × Val)} {N : Nat} {ks : List Str}
theorem Txt.kd (T : Txt fa fn fx ts X.w X.K X.mg) (j : Nat) (h : ts[j]? = some (fun K => He.ga K x, ks) := by rfl) : ∃ es n, KDict X.K X.w (He.ga X.K x) es n := T.tabs j _ h
theorem re_kin (T : Txt fa fn fx ts X.w X.K X.mg) (i j k : Nat) (ha : RE X E a ma) (hg : Gl X x := by rfl) (hi : fa[i]? = some (.glo x) := by rfl) (hj : ts[j]? = some (fun K => He.ga K x, ks) := by rfl) (hk : fx[k]? = some (dctF x l N) := by rfl) (hd : (x == ("__debug__" : Str)) = false := by decide)
    (hm : behindInMarks .In (.Name x p) = false := by rfl) : RE X E (.Compare a [.In] [.Name x p] pos) (eKin false l N ma) := by
  obtain ⟨es, n, kd⟩ := T.kd j hj
  refine pe_weak (pe_cmpR (op_in_kd kd) ha (pe_glob hg (T.glo i hi) (v := .ref (He.ga X.K x)) rfl hd) hm) fun σ H Q ⟨ι, G, ρ, S, sl, q⟩ => run1 S sl ((Post.bind q).mono fun ι1 G1 H1 v x1 S1 q1 y ry => ?_)
  cases v with
  | str c =>
    dsimp only at q1
    by_cases hc : c < N
    · rw [if_pos hc] at q1
      have f := T.more _ (List.mem_of_getElem? hk)
      rcases dctF_at f hc with ⟨u, v, e1, e2, _⟩ | ⟨e1, e2⟩
      · rw [e2] at q1
        exact ⟨nm c, _, ry, rfl, e1, q1.here S1 _ rfl⟩
      · rw [e2] at q1
        exact ⟨nm c, _, ry, rfl, e1, q1.here S1 _ rfl⟩
    · rw [if_neg hc] at q1
      exact q1.elim
  | _ => exact q1.elim
theorem rt_kin (T : Txt fa fn fx ts X.w X.K X.mg) (i j k : Nat) (ha : RE X E a ma) (hg : Gl X x := by rfl) (hi : fa[i]? = some (.glo x) := by rfl) (hj : ts[j]? = some (fun K => He.ga K x, ks) := by rfl) (hk : fx[k]? = some (dctF x l N) := by rfl) (hd : (x == ("__debug__" : Str)) = false := by decide)
    (hm : behindInMarks .In (.Name x p) = false := by rfl) : RT X E (.Compare a [.In] [.Name x p] pos) (eTest (eKin false l N ma)) := by
  obtain ⟨es, n, kd⟩ := T.kd j hj
  refine rt_of (pt_cmpR (op_in_kd kd) ha (pe_glob hg (T.glo i hi) (v := .ref (He.ga X.K x)) rfl hd) hm) fun σ H Q ⟨ι, G, ρ, S, sl, q⟩ => run1 S sl ((Post.bind q).mono fun ι1 G1 H1 v x1 S1 q1 y ry => ?_)
  cases v with
  | str c =>
    dsimp only at q1
    by_cases hc : c < N
    · rw [if_pos hc] at q1
      have f := T.more _ (List.mem_of_getElem? hk)
      rcases dctF_at f hc with ⟨u, v, e1, e2, _⟩ | ⟨e1, e2⟩
      · rw [e2] at q1
        exact ⟨nm c, _, ry, rfl, e1, q1.here S1 _ rfl⟩
      · rw [e2] at q1
        exact ⟨nm c, _, ry, rfl, e1, q1.here S1 _ rfl⟩
    · rw [if_neg hc] at q1
      exact q1.elim
  | _ => exact q1.elim
theorem re_knin (T : Txt fa fn fx ts X.w X.K X.mg) (i j k : Nat) (ha : RE X E a ma) (hg : Gl X x := by rfl) (hi : fa[i]? = some (.glo x) := by rfl) (hj : ts[j]? = some (fun K => He.ga K x, ks) := by rfl) (hk : fx[k]? = some (dctF x l N) := by rfl) (hd : (x == ("__debug__" : Str)) = false := by decide)
    (hm : behindInMarks .NotIn (.Name x p) = false := by rfl) : RE X E (.Compare a [.NotIn] [.Name x p] pos) (eKin true l N ma) := by
  obtain ⟨es, n, kd⟩ := T.kd j hj
  refine pe_weak (pe_cmpR (op_notIn_kd kd) ha (pe_glob hg (T.glo i hi) (v := .ref (He.ga X.K x)) rfl hd) hm) fun σ H Q ⟨ι, G, ρ, S, sl, q⟩ => run1 S sl ((Post.bind q).mono fun ι1 G1 H1 v x1 S1 q1 y ry => ?_)
  cases v with
  | str c =>
    dsimp only at q1
    by_cases hc : c < N
    · rw [if_pos hc] at q1
      have f := T.more _ (List.mem_of_getElem? hk)
      rcases dctF_at f hc with ⟨u, v, e1, e2, _⟩ | ⟨e1, e2⟩
      · rw [e2] at q1
        exact ⟨nm c, _, ry, rfl, e1, q1.here S1 _ rfl⟩
      · rw [e2] at q1
        exact ⟨nm c, _, ry, rfl, e1, q1.here S1 _ rfl⟩
    · rw [if_neg hc] at q1
      exact q1.elim
  | _ => exact q1.elim
theorem rt_knin (T : Txt fa fn fx ts X.w X.K X.mg) (i j k : Nat) (ha : RE X E a ma) (hg : Gl X x := by rfl) (hi : fa[i]? = some (.glo x) := by rfl) (hj : ts[j]? = some (fun K => He.ga K x, ks) := by rfl) (hk : fx[k]? = some (dctF x l N) := by rfl) (hd : (x == ("__debug__" : Str)) = false := by decide)
    (hm : behindInMarks .NotIn (.Name x p) = false := by rfl) : RT X E (.Compare a [.NotIn] [.Name x p] pos) (eTest (eKin true l N ma)) := by
  obtain ⟨es, n, kd⟩ := T.kd j hj
  refine rt_of (pt_cmpR (op_notIn_kd kd) ha (pe_glob hg (T.glo i hi) (v := .ref (He.ga X.K x)) rfl hd) hm) fun σ H Q ⟨ι, G, ρ, S, sl, q⟩ => run1 S sl ((Post.bind q).mono fun ι1 G1 H1 v x1 S1 q1 y ry => ?_)
  cases v with
  | str c =>
    dsimp only at q1
    by_cases hc : c < N
    · rw [if_pos hc] at q1
      have f := T.more _ (List.mem_of_getElem? hk)
      rcases dctF_at f hc with ⟨u, v, e1, e2, _⟩ | ⟨e1, e2⟩
      · rw [e2] at q1
        exact ⟨nm c, _, ry, rfl, e1, q1.here S1 _ rfl⟩
      · rw [e2] at q1
        exact ⟨nm c, _, ry, rfl, e1, q1.here S1 _ rfl⟩
    · rw [if_neg hc] at q1
      exact q1.elim
  | _ => exact q1.elim
theorem re_kix (T : Txt fa fn fx ts X.w X.K X.mg) (i j k : Nat) (ha : RE X E a ma) (hg : Gl X x := by rfl) (hi : fa[i]? = some (.glo x) := by rfl) (hj : ts[j]? = some (fun K => He.ga K x, ks) := by rfl) (hk : fx[k]? = some (dctF x l N) := by rfl) (hd : (x == ("__debug__" : Str)) = false := by decide)
    (hs : PlainIx a := by intro _ _; rfl) : RE X E (.Subscript (.Name x p) a pos) (eKix l N ma) := by
  obtain ⟨es, n, kd⟩ := T.kd j hj
  refine pe_weak (pe_ix ix_kdict (pe_glob hg (T.glo i hi) (v := .ref (He.ga X.K x)) rfl hd) ha hs) fun σ H Q ⟨ι, G, ρ, S, sl, q⟩ => run1 S sl ((Post.bind q).mono fun ι1 G1 H1 v x1 S1 q1 y ry => ?_)
  cases v with
  | str c =>
    dsimp only at q1
    by_cases hc : c < N
    · rw [if_pos hc] at q1
      have f := T.more _ (List.mem_of_getElem? hk)
      rcases dctF_at f hc with ⟨u, v, e1, e2, e3⟩ | ⟨e1, e2⟩
      · rw [e2] at q1
        obtain ⟨z, r1, r2⟩ := datB_val e3
        exact ⟨_, nm c, z, rfl, ry, ⟨es, n, u, kd.at_, kd.lit, e1, r1⟩, q1.here S1 _ (r2 _ _ _)⟩
      · rw [e2] at q1
        exact q1.elim
    · rw [if_neg hc] at q1
      exact q1.elim
  | _ => exact q1.elim
theorem find_ns {K : PySem.W.Frag} {d : Addr} {es : Array DictEntry} {n : Nat} {z : Str} {r : Option Value} (h : List.lookup d K = some { cls := .type "dict", data := .dict es n }) (e : PySem.W.nsIn K d z = some r) : findBy Value.isStrOf es z = r := by
  unfold PySem.W.nsIn at e
  rw [h] at e
  dsimp only at e
  have ef : (fun e : DictEntry => Value.isStrOf z e.key) = fun e => e.key.isStr z := by
    funext e
    cases e.key <;> rfl
  unfold findBy
  rw [ef, ← Array.find?_toList]
  cases e1 : es.toList.find? fun x => x.key.isStr z with
  | some en =>
    rw [e1] at e
    cases e
    rfl
  | none =>
    rw [e1] at e
    dsimp only at e
    by_cases c : (es.toList.any fun x => x.refKey) = true
    · rw [if_pos c] at e
      cases e
    · rw [if_neg c] at e
      cases e
      rfl
def tKget (K : PySem.W.Frag) (d : Addr) (te : TE) : TE := fun σ H Q => te σ H fun y H1 => ∃ z r v, y = .str z ∧ PySem.W.nsIn K d z = some r ∧ RelV v (r.getD .none) ∧ Q v H1
theorem pe_kget {o e : Expr} {d : Addr} {es : Array DictEntry} {n : Nat} {te : TE} (kd : KDict X.K X.w d es n) (ho : PE X o (tC (.ref d))) (he : PE X e te) (h : M1 X o "get" apos e cpos) : PE X (.Call (.Attribute o "get" apos) [e] [] cpos) (tKget X.K d te) := by
  refine ⟨fun pins s σ H Q I hq => wpAny_Call_method h.base h.few h.line F.plainAttrs_dict F.slot_dict_get F.type_dict_get (thn (ho.run pins s σ H (fun y H1 => y = .ref d ∧ tKget X.K d te σ H1 Q) I ⟨rfl, hq⟩) fun u s1 ⟨y, H1, I1, ry, ey, q⟩ => ?_)⟩
  subst ey
  have eu : u = .ref d := ry
  subst eu
  refine ⟨kd_type kd I1, fun a ea => ?_, ?_⟩
  · cases ea
    exact ⟨_, I1.kIn _ _ kd.at_, rfl⟩
  · rw [h.trees]
    refine wpAny_dict_get1 (knd := PySem.strKind X.prog X.w) kd.low (thn (he.run pins s1 σ H1 _ I1 q) fun w s2 ⟨y2, H2, I2, ry2, z, r, v, e1, e2, e3, q2⟩ => ?_)
    subst e1
    obtain ⟨t, rfl⟩ := ry2
    refine ⟨z, _, by simp [PySem.strKind, Value.isStrOf], PySem.W.mapOf_K I2.kIn kd.at_ kd.lit, v, H2, Inv.kept (t' := s2.toks + 1) I2 fun _ _ q => q, ?_, q2⟩
    rw [find_ns kd.at_ e2]
    exact e3
theorem re_kget (T : Txt fa fn fx ts X.w X.K X.mg) (i j k : Nat) (ha : RE X E a ma) (h : M1 X (.Name x p) "get" apos a cpos) (hg : Gl X x := by rfl) (hi : fa[i]? = some (.glo x) := by rfl) (hj : ts[j]? = some (fun K => He.ga K x, ks) := by rfl) (hk : fx[k]? = some (dctF x l N) := by rfl) (hd : (x == ("__debug__" : Str)) = false := by decide) :
    RE X E (.Call (.Attribute (.Name x p) "get" apos) [a] [] cpos) (eKget l N ma) := by
  obtain ⟨es, n, kd⟩ := T.kd j hj
  refine pe_weak (pe_kget kd (pe_glob hg (T.glo i hi) (v := .ref (He.ga X.K x)) rfl hd) ha h) fun σ H Q ⟨ι, G, ρ, S, sl, q⟩ => run1 S sl ((Post.bind q).mono fun ι1 G1 H1 v x1 S1 q1 y ry => ?_)
  cases v with
  | str c =>
    dsimp only at q1
    by_cases hc : c < N
    · rw [if_pos hc] at q1
      have f := T.more _ (List.mem_of_getElem? hk)
      rcases dctF_at f hc with ⟨u, v, e1, e2, e3⟩ | ⟨e1, e2⟩
      · rw [e2] at q1
        obtain ⟨z, r1, r2⟩ := datB_val e3
        exact ⟨nm c, _, z, ry, e1, r1, q1.here S1 _ (r2 _ _ _)⟩
      · rw [e2] at q1
        exact ⟨nm c, _, .non, ry, e1, rfl, q1.here S1 _ rfl⟩
    · rw [if_neg hc] at q1
      exact q1.elim
  | _ => exact q1.elim
end
/-! ### range(i, j, c) -/
def rangeC (lo c : Int) (m : Nat) : List Val := (List.range m).map fun (i : Nat) => Val.int (lo + (i : Int) * c)
def rng3 (vs : List Val) : Option (List Val) := match vs with
  | [.int i, .int j, .int c] => if c ≠ 0 ∧ c.natAbs < 1073741824 ∧ Builtin.Range.small i j c = true ∧ 0 ≤ Builtin.Range.rangeSize i j c then some (rangeC i c (Builtin.Range.rangeSize i j c).toNat) else none
  | _ => none
section
variable {K : PySem.W.Frag} {E : XK} {ι : Vw} {n : Nat} {H : Hp}
theorem itc_w {lo c : Int} {m : Nat} :
    (∀ (j : Nat) (ι' : Vw) (n' : Nat) (H' : Hp) v, Ext K ι n H ι' n' H' → (rangeC lo c m)[j]? = some v → (Itc lo c m).go j H' ∧ ∀ x H2, (Itc lo c m).yld j H' x H2 → H2 = H' ∧ Rep K ι' n' H' v x) ∧
    (∀ (ι' : Vw) (n' : Nat) (H' : Hp), Ext K ι n H ι' n' H' → (Itc lo c m).stop (rangeC lo c m).length H') := by
  have hl : (rangeC lo c m).length = m := by simp [rangeC]
  refine ⟨fun j ι' n' H' v x hv => ?_, fun ι' n' H' x => (by rw [hl]; exact Nat.le_refl m)⟩
  have hj : j < m := by rw [← hl]; exact (List.getElem?_eq_some_iff.mp hv).1
  refine ⟨hj, fun z H2 ⟨e1, e2⟩ => ⟨e1, ?_⟩⟩
  have e3 : v = .int (lo + (j : Int) * c) := by
    unfold rangeC at hv
    rw [List.getElem?_map, List.getElem?_range hj] at hv
    exact (Option.some.inj hv).symm
  rw [e3, e2]
  exact rfl
theorem rng3_inv {vs l : List Val} {xs : List V} (r : Reps K ι n H vs xs) (h : rng3 vs = some l) : ∃ (i j c : Int) (m : Nat), xs = [.int i, .int j, .int c] ∧ RgC i j c m ∧ l = rangeC i c m := by
  unfold rng3 at h
  split at h
  · rename_i i j c
    split at h
    · rename_i hc
      cases h
      obtain ⟨y1, ys1, e1, r1, y2, ys2, e2, r2, y3, ys3, e3, r3, r4⟩ := r
      subst e1
      subst e2
      subst e3
      rw [show ys3 = [] from r4, show y1 = V.int i from r1, show y2 = V.int j from r2, show y3 = V.int c from r3]
      exact ⟨i, j, c, _, rfl, ⟨hc.1, hc.2.1, hc.2.2.1, by omega⟩, rfl⟩
    · cases h
  · cases h
end
section
variable {X : Cx} {E : XK} {tg iter elt : Expr} {ifs : List Expr} {scope : Scope} {own : List (Str × Nat)} {te : EM} {tt : TM} {p : Pt} {pos : Pos} {z : Bool}
theorem lcFR3_w {K : PySem.W.Frag} {ma : AM} {own : List Nat} (ho : ∀ i ∈ p.slots, i ∈ own) : ∀ σ H Q, tE K E (eLcFR z rng3 ma p tt te own) σ H Q → tLc (iRng3 (tA K E ma)) (tG K p) (tT K E tt) (tE K E te) own σ H Q := fun σ H Q ⟨ι, G, ρ, S, sl, q⟩ => ⟨ι, G, ρ, S, sl, (Post.bind q).mono fun ι1 G1 H1 vs x1 S1 q1 xs rxs => by
  cases e : rng3 vs with
  | none => rw [e] at q1; exact q1.elim
  | some l =>
    rw [e] at q1
    dsimp only at q1
    by_cases hz : l.length ≤ sizeLine
    · rw [if_pos hz] at q1
      obtain ⟨i, j, c, m, e1, h1, rfl⟩ := rng3_inv rxs e
      exact ⟨i, j, c, m, e1, h1, lcF_w ho hz itc_w.1 itc_w.2 S1 (sl.ext x1) q1⟩
    · rw [if_neg hz] at q1
      exact q1.elim⟩
theorem re_lcFR3 {a b c : Expr} {ma : AM} {pr pos' : Pos} (hc : X.calm = true) (hN : X.N.Nodup) (hgl : Gl X "range") (hm : X.mg "range" = none) (ha : RA X E [a, b, c] ma) (ok : BlkOk X.N X.env.scope scope own) (ho : ∀ i ∈ p.slots, i ∈ own.map (·.2))
    (hg : ∀ s H C cl fp, RG (Blk X scope s H C cl fp) tg p) (ht : ∀ s H C cl fp, PTs (Blk X scope s H C cl fp) ifs (tT X.K E tt)) (he : ∀ s H C cl fp, RE (Blk X scope s H C cl fp) E elt te)
    (hs1 : starEach [a, b, c] X.env = (false, eval a X.env) :: starEach [b, c] X.env := by rfl) (hs2 : ((backTo pos' (starEach [b, c] X.env)).any fun x => x.1) = false := by rfl) (hs : ∀ x, foldedSetIterable (.Call (.Name "range" pr) [a, b, c] [] pos') X.env x = pure x := by intro _; rfl) :
    RE X E (.ListComp elt [⟨tg, .Call (.Name "range" pr) [a, b, c] [] pos', ifs, 0⟩] scope pos) (eLcFR z rng3 ma p tt te (own.map (·.2))) :=
  re_lcW hc hN (pi_range3 hgl hm ha hs1 hs2) ok hg ht he (lcFR3_w ho) hs
end
/-! ### dict(pairs) -/
def pairOf (v : Val) : Option (Ky × Val) := match v with
  | .tup [k, w] => (match keyOf k with
    | some c => some (c, w)
    | none => none)
  | _ => none
def bDictP (z : Bool) : F1 := fun vs G => match vs with
  | [v] => (match (lstOf G v).bind (optAll pairOf) with
    | some kvs => mkD z (kvs.foldl (fun a q => putKy a q.1 q.2) []) G
    | none => .bad)
  | _ => .bad
section
variable {K : PySem.W.Frag} {E : XK} {ι : Vw} {n : Nat} {H : Hp}
theorem merge_reps : ∀ {l : List (Ky × Val)} {xs : List (Key × V)} {a : List (Ky × Val)} {b : List (Key × V)}, KReps K ι n H l xs → KReps K ι n H a b → KReps K ι n H (l.foldl (fun a q => putKy a q.1 q.2) a) (xs.foldl (fun acc kv => putK acc kv.1 kv.2) b)
  | [], xs, a, b, r, h => by
    rw [show xs = [] from r]
    exact h
  | q :: l, xs, a, b, ⟨y, ys, e, r1, r2⟩, h => by
    rw [e, List.foldl_cons, List.foldl_cons]
    exact merge_reps (l := l) r2 (h.put r1)
theorem pairs_at : ∀ {l : List Val} {xs : List V} {kvs : List (Ky × Val)}, optAll pairOf l = some kvs → Reps K ι n H l xs → ∃ (ps : List Addr) (ks : List (Key × V)), xs = ps.map V.ref ∧ Paired (fun p kv => SqT K H p [kV kv.1, kv.2]) ps ks ∧ KReps K ι n H kvs ks
  | [], xs, kvs, h, r => by
    cases h
    exact ⟨[], [], r, .nil, rfl⟩
  | v :: l, xs, kvs, h, ⟨y, ys, e, r1, r2⟩ => by
    obtain ⟨q, s, e1, e2, rfl⟩ := optAll_cons h
    obtain ⟨ps, ks, a1, a2, a3⟩ := pairs_at e2 r2
    unfold pairOf at e1
    split at e1
    · rename_i k w
      cases e3 : keyOf k with
      | none => rw [e3] at e1; cases e1
      | some c =>
        rw [e3] at e1
        cases e1
        obtain ⟨p, zs, ey, f1, z1, zs1, g1, r3, z2, zs2, g2, r4, r5⟩ := r1
        subst g1
        subst g2
        rw [show zs2 = [] from r5] at f1
        have ek : z1 = kV (kyOf c) := by
          cases k with
          | int i => cases e3; exact r3
          | str i => cases e3; exact r3
          | _ => cases e3
        rw [ek] at f1
        exact ⟨p :: ps, (kyOf c, z2) :: ks, by rw [e, ey, a1]; rfl, .cons f1 a2, z2, ks, rfl, r4, a3⟩
    · cases e1
theorem s_dictP {z : Bool} : CallS K E (fun xs H Q => ∃ a ps kvs, xs = [V.ref a] ∧ SqL K H a (ps.map V.ref) ∧ Paired (fun p kv => SqT K H p [kV kv.1, kv.2]) ps kvs ∧ ∀ p, H p = none → Q (.ref p) (L2.upd H p (.dK (mergeK [] kvs)))) (bDictP z) := fun ι G H vs xs Q S rs p => by
  unfold bDictP at p
  cases vs with
  | nil => exact p.elim
  | cons v l =>
    cases l with
    | cons _ _ => exact p.elim
    | nil =>
      dsimp only at p
      cases e : lstOf G v with
      | none => rw [e] at p; exact p.elim
      | some l =>
        rw [e] at p
        dsimp only [Option.bind] at p
        cases e2 : optAll pairOf l with
        | none => rw [e2] at p; exact p.elim
        | some kvs =>
          rw [e2] at p
          obtain ⟨x, rfl, rx⟩ := reps1 rs
          obtain ⟨a, ys, ex, h1, h2⟩ := lstOf_at S rx e
          obtain ⟨ps, ks, a1, a2, a3⟩ := pairs_at e2 h2
          subst a1
          exact ⟨a, ps, ks, by rw [ex], .of h1, a2, post_mkD S (merge_reps a3 (show KReps K ι G.length H [] [] from rfl)) p⟩
end
/-- dict(x): of a dict, of a list of pairs -/
def bDictX (z : Bool) : F1 := orF1 (bDict z) (bDictP z)
end R1

/-! R1v: raise X(), try .. except X as e: return of what is known. -/
namespace R1
open PySem PySem.Spec PyProof.Rows L2
section
variable {X : Cx} {E : XK}
theorem pmk_own0 {C : Addr} {bmB : List Value} {B newId initId : String} {x : Str} {p pos : Pos} (F : ExcBaseFacts B newId initId bmB) (q : PySem.W.excIn X.K C bmB newId = true) (gC : X.mg x = some (.ref C)) (kC : PySem.W.keepIn X.K (.ref C) = true) (r : Raises X (.ref C)) (hg : Gl X x) (hdb : (x == ("__debug__" : Str)) = false := by decide) :
    PMk X (.Call (.Name x p) [] [] pos) (fun _ H Q => Q (.ref C) none H) := fun pins s σ H Q I h => by
  refine wpAny_Call_Name_kw (ld_glob I hg gC (PySem.W.callWith_K0 I.kIn kC ?_) hdb)
  obtain ⟨bm, N, nm, qn, bs, hdct, sn, sub, ab, col, dd, k0, k1, k2, k3, k5, mN, hC, hN, hni, T⟩ := exc_obj I.kIn q
  obtain ⟨hp, g, dr, tk, os⟩ := s
  exact wpAny_call_exc_subT F T hC hN hni (fun h' e hm => mk_of I hm r h (HOk.gone I.hok hm.new)) (Nat.zero_le _)
def sRaise (c : Str) : SM := fun _ G => .exc c G
variable {fa : List He.Fa} {fn : List He.DefD} {fx : List (PySem.W.Frag → Bool)} {ts : List He.Tab} {w : World}
theorem rs_raise {c : Str} {p pos pos' : Pos} (T : Txt fa fn fx ts w X.K X.mg) (i j : Nat) (tk : Takes X fun cls d _ H => E cls d H) (hcalm : X.calm = true := by rfl) (hg : Gl X c := by rfl) (hi : fa[i]? = some (.exc c) := by rfl) (hj : fa[j]? = some (.glo c) := by rfl) (hdb : (c == ("__debug__" : Str)) = false := by decide) :
    RS X E (.Raise (some (.Call (.Name c p) [] [] pos)) none pos') (sRaise c) := by
  obtain ⟨h1, h2, h3, h4⟩ := He.exc_ok (T.says.fact i hi)
  exact ps_weak (ps_raise hcalm tk (pmk_own0 PySem.F.excBase_ValueError h1 (T.glo j hj) h2 (raises_own h3 h4) hg hdb)) fun D σ H ⟨ι, G, ρ, S, sl, p⟩ => p ι H .refl S
theorem passW {W : WX} (tk : Takes X W) (h : ∀ (σ : L2.St) (cls : Value) (d : Option Addr) (H : Hp), σ.length = X.N.length → E cls d H → W cls d σ H) : Passes (CX X.prog X.w) X E := fun pins σ H s e s' I c => by
  refine passAt tk σ pins H s e s' I ?_
  obtain ⟨a, B, H', cls, d, h1, h2, h3, h4, h5, h6, h7, h8⟩ := c
  exact ⟨a, B, H', cls, d, h1, h2, h3, h4, h5, h6, h7, h σ cls d H' I.len h8⟩
/-- what an except's suite tells -/
inductive Ht where
  | val (v : Val) | lst (z : Bool) (l : List Val)
def Ht.res : Ht → Store → Res Val
  | .val v, G => .ok v G
  | .lst z l, G => mkL z l G
def sTry (b : SM) (v : Ht) : SM := fun ρ G => match b ρ G with
  | .exc c G' => if c = ("NotValid" : Str) then (v.res G').toS fun w G2 => .ret w G2 else .bad
  | r => r
/-- what the suite asks -/
def tSu (K : PySem.W.Frag) (i : Nat) (a : Addr) (v : Ht) : TS := fun D σ H => σ[i]? = some (some (.ref a)) ∧ ∃ ι G, Sim K ι G H ∧ Post K (fun _ _ _ => False) ι G.length H (v.res G) fun ι' G' H' w => ∀ x, Rep K ι' G'.length H' w x → D.rt x H'
theorem res_post {K : PySem.W.Frag} {E E' : XK} {ι : Vw} {H : Hp} {v : Ht} {G : Store} {k : Vw → Store → Hp → Val → Prop} (h : Post K E ι G.length H (v.res G) k) : Post K E' ι G.length H (v.res G) k := by
  cases v with
  | val v => exact h
  | lst z l => cases z <;> exact h
theorem rs_try {i : Nat} {n : Str} {body suite : List Stmt} {b0 : Stmt} {np pos pos' : Pos} {b : SM} {v : Ht} (T : Txt fa fn fx ts w X.K X.mg) (j l : Nat)
    (hb : ∀ (pn : List (Addr × Obj)) (xe : Value → Shared → Prop) (E' : XK), PassesOwn (model X.prog X.w) X.A X.env xe → Passes (CX X.prog X.w) (X.tr pn xe) E' → RSs (X.tr pn xe) E' body b)
    (hsu : ∀ (a : Addr) (oe : Obj) (pn : List (Addr × Obj)), Zc (.ref (He.ga X.K ("NotValid" : Str))) none oe → (∃ vs, oe.data = .fields vs) → PSs (X.suite a ((a, oe) :: pn)) (b0 :: suite) (tSu X.K i a v))
    (hN : X.N.Nodup) (hi : X.N[i]? = some n) (hln : X.env.kindOf n = some .local := by rfl) (hs : X.stack = X.env :: X.outer := by rfl) (hf : X.env.frame = some X.env.locals := by rfl) (hg : Gl X ("LineError" : Str) := by rfl)
    (hj : fa[j]? = some (.exm "NotValid" "LineError" true) := by rfl) (hl : fa[l]? = some (.glo "LineError") := by rfl) :
    RS X E (.Try body [.ExceptHandler (some (.Name ("LineError" : Str) np)) (some n) (b0 :: suite) pos'] [] [] pos) (sTry b v) := by
  have exm := He.exm_ok (T.says.fact j hj)
  have hc : Names X ("LineError" : Str) (.ref (He.ga X.K ("LineError" : Str))) := ⟨hg, by decide, .inl (T.glo l hl)⟩
  let ts' : Addr → Value → Option Addr → TS := fun a cls d D σ H => cls = .ref (He.ga X.K ("NotValid" : Str)) ∧ d = none ∧ tSu X.K i a v D σ H
  let tb : WX → TS := fun W D σ H => ∃ E', (∀ (σ : L2.St) (cls : Value) (d : Option Addr) (H : Hp), σ.length = X.N.length → E' cls d H → W cls d σ H) ∧ tS X.K E' b D σ H
  refine ps_weak (ps_try_as (tb := tb) (ts := ts') (Wout := fun _ _ _ _ => False) hs hf hN hi hln hc (fun u s' ⟨_, _, _, _, _, _, _, _, _, _, _, _, _, _, _, _, h⟩ => h.elim) (fun W pn xe tk po => ⟨fun pins s σ H D I q => ?_⟩) (fun a oe cls d pn hz hv => ⟨fun pins s σ H D I q => ?_⟩)) fun D σ H ⟨ι, G, ρ, S, sl, p⟩ => ?_
  · obtain ⟨E', h1, h2⟩ := q
    exact (hb pn xe E' po (passW tk h1)).run pins s σ H D I h2
  · obtain ⟨rfl, rfl, q⟩ := q
    exact (hsu a oe pn hz hv).run pins s σ H D I q
  · refine ⟨fun cls d H' => cls = .ref (He.ga X.K ("NotValid" : Str)) ∧ d = none ∧ ∃ ι' G', Sim X.K ι' G' H' ∧ Post X.K (fun _ _ _ => False) ι' G'.length H' (v.res G') fun ι2 G2 H2 w => ∀ x, Rep X.K ι2 G2.length H2 w x → D.rt x H2, fun σ cls d H hlen h => ?_, ι, G, ρ, S, sl, ?_⟩
    · obtain ⟨rfl, rfl, ι', G', S', p'⟩ := h
      refine ⟨true, exm, fun _ a ha => ⟨rfl, rfl, ?_, ι', G', S', p'⟩, fun z => by cases z⟩
      rw [List.getElem?_set_self]
      rw [hlen]
      exact (List.getElem?_eq_some_iff.mp hi).1
    · unfold sTry at p
      cases e : b ρ G with
      | exc c G' =>
        rw [e] at p
        dsimp only at p
        by_cases hcn : c = ("NotValid" : Str)
        · subst hcn
          rw [if_pos rfl] at p
          exact fun ι' H' x S' => ⟨rfl, rfl, ι', G', S', res_post (Post.ext x (p.ofRes.mono fun ι2 G2 H2 w x2 S2 p2 y ry => p2 ι2 H2 y .refl S2 ry))⟩
        · rw [if_neg hcn] at p
          exact p.elim
      | next ρ' G' => rw [e] at p; exact p
      | ret w G' => rw [e] at p; exact p
      | brk ρ' G' => rw [e] at p; exact p
      | cont ρ' G' => rw [e] at p; exact p
      | bad => rw [e] at p; exact p.elim
end
/-! the suites -/
def excF (x : Str) : PySem.W.Frag → Bool := fun K =>
  He.eqO (PySem.W.findIn K (.ref (He.ga K x)) "__getattribute__") (some (some (.builtin "BaseException.__getattribute__"))) &&
  (He.eqO (PySem.W.findIn K (.ref (He.ga K x)) "__getattr__") (some none) &&
  (decide (PySem.W.subIn K (.ref (He.ga K x)) (.type "BaseException") = some true) &&
  (PySem.W.hasDictIn K (He.ga K x) &&
  (He.eqO (PySem.W.findIn K (.ref (He.ga K x)) "__class__") (some (some (.builtin "object.__class__"))) &&
  (He.eqO (PySem.W.specialIn K (.builtin "object.__class__") "__get__") (some (some (.builtin "getset_descriptor.__get__"))) &&
  (decide (PySem.W.takesIn K (.builtin "object.__class__") = some true) &&
  (decide (PySem.W.mroIn K (He.ga K x) (.type "object") = some true) &&
  decide (PySem.W.kitOne K (.ref (He.ga K x)) (.ref (He.ga K x)) = some true))))))))
theorem excF_ok {K : PySem.W.Frag} {x : Str} (h : excF x K = true) : ExcC K (He.ga K x) ∧ PySem.W.kitOne K (.ref (He.ga K x)) (.ref (He.ga K x)) = some true := by
  unfold excF at h
  simp only [Bool.and_eq_true] at h
  obtain ⟨h1, h2, h3, h4, h5, h6, h7, h8, h9⟩ := h
  exact ⟨⟨He.eqO_ok h1, He.eqO_ok h2, of_decide_eq_true h3, h4, He.eqO_ok h5, He.eqO_ok h6, of_decide_eq_true h7, of_decide_eq_true h8⟩, of_decide_eq_true h9⟩
section
variable {X : Cx} {fa : List He.Fa} {fn : List He.DefD} {fx : List (PySem.W.Frag → Bool)} {ts : List He.Tab} {w : World} {a : Addr} {oe : Obj} {pn : List (Addr × Obj)} {n : Str} {p p1 p2 pos rp lp sp : Pos}
theorem pe_isiE (T : Txt fa fn fx ts w X.K X.mg) (i j l m : Nat) (hz : Zc (.ref (He.ga X.K ("NotValid" : Str))) none oe) (hf : ∃ vs, oe.data = .fields vs) (hi : X.N[i]? = some n := by rfl) (hv : Vis X.env.scope n := by first | exact .inl rfl | exact .inr (.inl rfl) | exact .inr (.inr rfl))
    (hgi : Gl X "isinstance" := by rfl) (hgn : Gl X ("NotValid" : Str) := by rfl) (hj : fa[j]? = some (.free "isinstance") := by rfl) (hl : fa[l]? = some (.glo "NotValid") := by rfl) (hm : fx[m]? = some (excF "NotValid") := by rfl) (hd : (n == ("__debug__" : Str)) = false := by decide) (hcd : (n == ("__classdict__" : Str)) = false := by decide)
    (h1 : starEach [.Name n p1, .Name ("NotValid" : Str) p2] X.env = (false, eval (.Name n p1) X.env) :: starEach [.Name ("NotValid" : Str) p2] X.env := by rfl) (h2 : starEach [.Name ("NotValid" : Str) p2] X.env = (false, eval (.Name ("NotValid" : Str) p2) X.env) :: starEach [] X.env := by rfl) (hpl : (backTo pos (starEach [.Name ("NotValid" : Str) p2] X.env)).any (·.1) = false := by rfl) :
    PE (X.suite a ((a, oe) :: pn)) (.Call (.Name "isinstance" p) [.Name n p1, .Name ("NotValid" : Str) p2] [] pos) (fun σ H Q => σ[i]? = some (some (.ref a)) ∧ Q (.bl true) H) := by
  obtain ⟨c1, c2⟩ := excF_ok (T.more _ (List.mem_of_getElem? hm))
  refine pe_weak (pe_callB (call_isE c1 hz hf) hgi (T.free j hj) (by decide +kernel) (pa_cons (pe_var hi hv hd hcd) (pa_cons (pe_glob hgn (T.glo l hl) (v := .ref (He.ga X.K ("NotValid" : Str))) rfl) pa_nil h2) h1) (by decide) (by decide) h1 hpl) fun σ H Q ⟨hs, q⟩ => ?_
  exact ⟨_, hs, .ref (He.ga X.K ("NotValid" : Str)), .ref (He.ga X.K ("NotValid" : Str)), true, rfl, fun u r => r, c2, q⟩
theorem su_val {i : Nat} {e : Expr} (h : PE (X.suite a ((a, oe) :: pn)) e (fun σ H Q => σ[i]? = some (some (.ref a)) ∧ Q (.bl true) H)) : PSs (X.suite a ((a, oe) :: pn)) [.Return (some e) rp] (tSu X.K i a (.val (.bl true))) :=
  pss_weak (pss_one (ps_ret h)) fun D σ H ⟨hs, ι, G, S, p⟩ => ⟨hs, p.here S _ rfl⟩
theorem su_lst1 {i : Nat} {e : Expr} {z : Bool} (h : PE (X.suite a ((a, oe) :: pn)) e (fun σ H Q => σ[i]? = some (some (.ref a)) ∧ Q (.bl true) H)) (h1 : starEach [e] X.env = (false, eval e X.env) :: starEach [] X.env := by rfl) : PSs (X.suite a ((a, oe) :: pn)) [.Return (some (.List [e] lp)) rp] (tSu X.K i a (.lst z [.bl true])) :=
  pss_weak (pss_one (ps_ret (pe_lst (pa_cons h pa_nil h1)))) fun D σ H ⟨hs, ι, G, S, p⟩ => ⟨hs, by show 1 ≤ sizeLine; decide, post_mkL (E := fun _ _ _ => False) S (Reps.one (v := .bl true) rfl) p⟩
theorem su_lst2 {i k : Nat} {e : Expr} {z : Bool} {sv : Str} {kd : Nat} (h : PE (X.suite a ((a, oe) :: pn)) e (fun σ H Q => σ[i]? = some (some (.ref a)) ∧ Q (.bl true) H)) (hk : nm k = sv := by decide +kernel) (h1 : starEach [e] X.env = (false, eval e X.env) :: starEach [] X.env := by rfl) (h2 : starEach [.Constant (.str sv) kd sp, e] X.env = (false, eval (.Constant (.str sv) kd sp) X.env) :: starEach [e] X.env := by rfl) : PSs (X.suite a ((a, oe) :: pn)) [.Return (some (.List [.Constant (.str sv) kd sp, e] lp)) rp] (tSu X.K i a (.lst z [.str k, .bl true])) :=
  pss_weak (pss_one (ps_ret (pe_lst (pa_cons pe_str (pa_cons h pa_nil h1) h2)))) fun D σ H ⟨hs, ι, G, S, p⟩ => ⟨hs, by show 2 ≤ sizeLine; decide, post_mkL (E := fun _ _ _ => False) S (l := [.str k, .bl true]) ⟨_, _, rfl, by rw [← hk]; exact rfl, Reps.one (v := .bl true) rfl⟩ p⟩
end
/-! defs that may raise -/
section
variable {P : Program} {w : World} {K : PySem.W.Frag} {mg : Str → Option Value} {base : Heap} {fa : List He.Fa} {fn : List He.DefD} {fx : List (PySem.W.Frag → Bool)} {ts : List He.Tab} {params : Arguments} {body : List Stmt} {scope : Scope} {N ps : List Str} {k : Nat} {b : SM}
abbrev BodyX (P : Program) (w : World) (K : PySem.W.Frag) (mg : Str → Option Value) (base : Heap) (N : List Str) (qual : Str) (body : List Stmt) (scope : Scope) (fa : Addr) (k : Nat) (b : SM) : Prop := ∀ (cdv : Value) (A : Around) (outer : List PySem.Env) (s : Shared) (H : Hp) (E : XK), Room k (A.deeper (envOfC qual scope s.heap.objs.size fa cdv)) →
  PassesOwn (model P w) (A.deeper (envOfC qual scope s.heap.objs.size fa cdv)) (envOfC qual scope s.heap.objs.size fa cdv) (cxOf (CX P w) P w K mg base N qual scope fa cdv A outer s H E).xe → Takes (cxOf (CX P w) P w K mg base N qual scope fa cdv A outer s H E) (fun cls d _ H => E cls d H) →
  Passes (CX P w) (cxOf (CX P w) P w K mg base N qual scope fa cdv A outer s H E) E → RSs (cxOf (CX P w) P w K mg base N qual scope fa cdv A outer s H E) E body b
theorem fn_okX {mm : F1} (hmm : Wk ps.length mm (runDef N.length ps.length b)) {x qual : Str} {f : Addr} {fd : FuncData} {dvs : List V} {kws : List (Str × V)} (F : FunD K x qual params body scope dvs kws f fd) (S : FnScope N ps scope) (hb : BodyX P w K mg base N qual body scope f k b) :
    FnOk P w K mg base (CX P w) (k + 1) f fd ps (spF K ps.length mm) := fn_okM hmm F S fun cdv A outer s H E hr => by
  have tk : Takes (cxOf (CX P w) P w K mg base N qual scope f cdv A outer s H E) (fun cls d _ H => E cls d H) := takes_of rfl rfl rfl rfl
  exact hb cdv A outer s H E hr .leaving tk (passW tk fun σ cls d H _ h => h)
theorem gfX {mm : F1} (hmm : Wk ps.length mm (runDef N.length ps.length b)) (T : Txt fa fn fx ts w K mg) (i j : Nat) {x : Str} (S : FnScope N ps scope) (hb : ∀ f, BodyX P w K mg base N x body scope f k b) (B : BindOk x x params body scope ps) (hi : fn[i]? = some ⟨(x, none), x, x, params, body, scope, [], []⟩ := by rfl) (hj : fa[j]? = some (.glo x) := by rfl) :
    GF P w K mg base (CX P w) (k + 1) x ps.length mm [] := by
  obtain ⟨fd, F⟩ := T.says.def_ i hi
  exact ⟨_, fd, ps, [], T.glo j hj, F.kp, fn_okX hmm F S (hb _), F.bindsN B, rfl, .nil⟩
theorem mfX {mm : F1} (hmm : Wk ps.length mm (runDef N.length ps.length b)) (T : Txt fa fn fx ts w K mg) (i j l c : Nat) {m q : Str} (S : FnScope N ps scope) (hb : ∀ f, BodyX P w K mg base N q body scope f k b) (B : BindOk m q params body scope ps) (hi : fn[i]? = some ⟨(cname c, some m), m, q, params, body, scope, [], []⟩ := by rfl) (hj : fa[j]? = some (.meth (cname c) m) := by rfl) (hl : fa[l]? = some (.cls (cname c)) := by rfl) (hm : m ∉ cfields c := by decide +kernel) :
    MF P w K mg base (CX P w) (k + 1) c m ps.length mm [] := by
  obtain ⟨fd, F⟩ := T.says.def_ i hi
  exact ⟨hm, He.cls_ok (T.says.fact l hl), _, fd, ps, [], He.meth_ok (T.says.fact j hj), fn_okX hmm F S (hb _), F.bindsN B, rfl, .nil⟩
theorem cfX {mm : F1} (hmm : Wk ps.length mm (runDef N.length ps.length b)) (T : Txt fa fn fx ts w K mg) (i j l c : Nat) {q : Str} (ok : ClsOk K c) (S : FnScope N ps scope) (hb : ∀ f, BodyX P w K mg base N q body scope f k b) (B : BindOk "__init__" q params body scope ps) (hi : fn[i]? = some ⟨(cname c, some "__init__"), "__init__", q, params, body, scope, [], []⟩ := by rfl) (hj : fa[j]? = some (.mkr (cname c)) := by rfl) (hl : fa[l]? = some (.glo (cname c)) := by rfl) :
    CF P w K mg base (CX P w) (k + 1) c ps.length mm [] := by
  obtain ⟨fd, F⟩ := T.says.def_ i hi
  exact ⟨ok, T.glo l hl, _, fd, ps, [], He.mkr_ok (T.says.fact j hj), fn_okX hmm F S (hb _), F.bindsN B, rfl, .nil⟩
end
/-! isinstance of an instance with a built-in class -/
def isiF (c : Str) (T : String) : PySem.W.Frag → Bool := fun K =>
  He.eqO (PySem.W.findIn K (.ref (He.ga K c)) "__class__") (some (some (.builtin "object.__class__"))) &&
  (He.eqO (PySem.W.specialIn K (.builtin "object.__class__") "__get__") (some (some (.builtin "getset_descriptor.__get__"))) &&
  (decide (PySem.W.takesIn K (.builtin "object.__class__") = some true) &&
  (decide (PySem.W.mroIn K (He.ga K c) (.type "object") = some true) &&
  decide (PySem.W.kitOne K (.ref (He.ga K c)) (.type T) = some false))))
def isIns (c : Nat) (G : Store) (v : Val) : Bool := match v with
  | .obj i => (match G[i]? with
    | some (.ins d _) => decide (d = c)
    | _ => false)
  | _ => false
def eIsiI (c : Nat) (m : EM) : EM := fun ρ G => (m ρ G).bind fun v G1 => if isIns c G1 v = true then .ok (.bl false) G1 else .bad
def eIsiX (c : Nat) (T : String) (m : EM) : EM := fun ρ G => (m ρ G).bind fun v G1 => if isIns c G1 v = true then .ok (.bl false) G1 else match tyN G1 v with
  | some n => .ok (.bl (isTy T n)) G1
  | none => .bad
section
variable {X : Cx} {E : XK} {e : Expr} {me : EM} {p p2 pos : Pos} {fa : List He.Fa} {fn : List He.DefD} {fx : List (PySem.W.Frag → Bool)} {ts : List He.Tab} {w : World}
theorem re_isiI (c : Nat) {T : String} {x : Str} (Tx : Txt fa fn fx ts w X.K X.mg) (m : Nat) (hgi : Gl X "isinstance") (hmi : X.mg "isinstance" = none) (hty : PE X (.Name x p2) (fun σ H Q => Q (.ty T) H)) (he : RE X E e me) (hm : fx[m]? = some (isiF (cname c) T) := by rfl)
    (h1 : starEach [e, .Name x p2] X.env = (false, eval e X.env) :: starEach [.Name x p2] X.env := by rfl) (h2 : starEach [.Name x p2] X.env = (false, eval (.Name x p2) X.env) :: starEach [] X.env := by rfl) (hpl : (backTo pos (starEach [.Name x p2] X.env)).any (·.1) = false := by rfl) :
    RE X E (.Call (.Name "isinstance" p) [e, .Name x p2] [] pos) (eIsiI c me) := by
  have hf := Tx.more _ (List.mem_of_getElem? hm)
  unfold isiF at hf
  simp only [Bool.and_eq_true] at hf
  obtain ⟨f1, f2, f3, f4, f5⟩ := hf
  refine pe_weak (pe_callB call_isi hgi hmi (by decide +kernel) (pa_cons he (pa_cons hty pa_nil h2) h1) (by decide) (by decide) h1 hpl) fun σ H Q ⟨ι, G, ρ, S, sl, q⟩ => run1 S sl ((Post.bind q).mono fun ι1 G1 H1 v x1 S1 q1 x rx => ?_)
  by_cases hi : isIns c G1 v = true
  · rw [if_pos hi] at q1
    unfold isIns at hi
    cases v with
    | obj i =>
      dsimp only at hi
      cases e1 : G1[i]? with
      | none => rw [e1] at hi; cases hi
      | some o =>
        rw [e1] at hi
        cases o with
        | ins d vs =>
          have hd : d = c := of_decide_eq_true hi
          subst hd
          obtain ⟨ck, dx, xs, g1, _⟩ := S1.ins e1
          have e2 := rx.2
          refine ⟨x, .ty T, .ref (He.ga X.K (cname d)), .type T, false, rfl, .ty T, ?_, of_decide_eq_true f5, q1.here S1 _ rfl⟩
          rw [e2]
          exact .base (.ins g1 ck.cls (He.eqO_ok f1) (He.eqO_ok f2) (of_decide_eq_true f3) (of_decide_eq_true f4))
        | _ => cases hi
    | _ => cases hi
  · rw [if_neg hi] at q1
    exact q1.elim
theorem re_isiX (c : Nat) {T : String} {x : Str} (Tx : Txt fa fn fx ts w X.K X.mg) (m : Nat) (hT : T ∈ tyNames) (hgi : Gl X "isinstance") (hmi : X.mg "isinstance" = none) (hty : PE X (.Name x p2) (fun σ H Q => Q (.ty T) H)) (he : RE X E e me) (hm : fx[m]? = some (isiF (cname c) T) := by rfl)
    (h1 : starEach [e, .Name x p2] X.env = (false, eval e X.env) :: starEach [.Name x p2] X.env := by rfl) (h2 : starEach [.Name x p2] X.env = (false, eval (.Name x p2) X.env) :: starEach [] X.env := by rfl) (hpl : (backTo pos (starEach [.Name x p2] X.env)).any (·.1) = false := by rfl) :
    RE X E (.Call (.Name "isinstance" p) [e, .Name x p2] [] pos) (eIsiX c T me) :=
  re_sel (re_isi hT hgi hmi hty he h1 h2 hpl) (re_isiI c Tx m hgi hmi hty he hm h1 h2 hpl) fun ρ G => by
    unfold eIsiX eIsi eIsiI
    cases e : me ρ G with
    | ok v G1 =>
      simp only [Res.bind]
      by_cases hi : isIns c G1 v = true
      · exact .inr (by rw [if_pos hi, if_pos hi])
      · exact .inl (by rw [if_neg hi]; all_goals (cases tyN G1 v <;> rfl))
    | exc c' G1 => exact .inl rfl
    | bad => exact .inl rfl
end
theorem un65 {k : Nat} {A : Around} (hr : Room k A) : A.units + 65 < cLine := by
  have := hr.un
  omega
/-! xs.index(v), v being there -/
def eIdx (o m : EM) : EM := fun ρ G => (o ρ G).bind fun v G1 => match itemsL G1 v with
  | none => .bad
  | some _ => (m ρ G1).bind fun u G2 => (match (itemsL G2 v).bind (optAll (toD G2 dEq)), toD G2 dEq u with
    | some ds, some d => if (SeqAt.shaped (.list ds) && SeqAt.shaped d) = true then (match ds.findIdx? (fun z => PyData.eqv z d) with
      | some j => .ok (.int (j : Nat)) G2
      | none => .bad) else .bad
    | _, _ => .bad)
section
variable {X : Cx} {E : XK} {o e : Expr} {mo me : EM} {apos cpos : Pos}
theorem re_idx (hu : X.A.units + 65 < cLine) (ho : RE X E o mo) (he : RE X E e me) (h1 : attributeBase o "index" X.env (eval o X.env) = eval o X.env := by rfl)
    (h2 : (((((backTo cpos (starEach [e] X.env)).all fun x => !x.fst) && (backToKw cpos (keywordEach [] X.env)).all fun x => x.fst.isSome) && decide (([e].length + ([] : List Keyword).length + if ([] : List Keyword).isEmpty = true then 0 else 1) < 30)) = true) := by rfl)
    (h3 : (apos.endLine == cpos.line) = true := by rfl) (h4 : starEach [e] X.env = (false, eval e X.env) :: starEach [] X.env := by rfl) (h5 : ((backTo cpos (starEach [] X.env)).any fun x => x.fst) = false := by rfl) :
    RE X E (.Call (.Attribute o "index" apos) [e] [] cpos) (eIdx mo me) := by
  refine pe_weak (pe_bm (name := "index") PySem.F.plainAttrs_list PySem.F.slot_list_index PySem.F.type_list_index (mt_indexD hu) ho (pa_cons he pa_nil h4) h1 h2 h3 h4 h5) fun σ H Q ⟨ι, G, ρ, S, sl, q⟩ => run1 S sl ((Post.bind q).mono fun ι1 G1 H1 v x1 S1 q1 x rx => ?_)
  cases e1 : itemsL G1 v with
  | none => rw [e1] at q1; exact q1.elim
  | some l =>
    rw [e1] at q1
    obtain ⟨p0, xs0, ex, g1, g2⟩ := itemsL_at S1 rx e1
    subst ex
    refine ⟨.inl ⟨rfl, _, g1⟩, run1 S1 (sl.ext x1) ((Post.bind q1).mono fun ι2 G2 H2 u x2 S2 q2 y ry => ?_)⟩
    cases e2 : itemsL G2 v with
    | none => simp only [e2] at q2; exact q2.elim
    | some l2 =>
      cases e3 : optAll (toD G2 dEq) l2 with
      | none => simp only [e2, Option.bind, e3] at q2; exact q2.elim
      | some ds =>
        cases e4 : toD G2 dEq u with
        | none => simp only [e2, Option.bind, e3, e4] at q2; exact q2.elim
        | some d =>
          simp only [e2, Option.bind, e3, e4] at q2
          by_cases hs : (SeqAt.shaped (.list ds) && SeqAt.shaped d) = true
          · rw [if_pos hs] at q2
            rw [Bool.and_eq_true_iff] at hs
            cases e5 : ds.findIdx? (fun z => PyData.eqv z d) with
            | none => rw [e5] at q2; exact q2.elim
            | some j =>
              rw [e5] at q2
              obtain ⟨p1, xs1, ex1, f1, f2⟩ := itemsL_at S2 (rx.ext x2) e2
              rw [List.findIdx?_eq_some_iff_getElem] at e5
              obtain ⟨hj, k1, k2⟩ := e5
              refine ⟨p1, y, d, ds, j, ds[j], ex1, rfl, ?_, dp_of S2 _ _ _ _ ry e4, hs.1, hs.2, List.getElem?_eq_getElem hj, k1, fun m z' hm hz => ?_, q2.here S2 _ rfl⟩
              · exact .lst f1 (dp_all dEq (fun v x d r h => dp_of S2 _ _ _ _ r h) _ _ _ f2 e3)
              · have hml : m < ds.length := by omega
                rw [List.getElem?_eq_getElem hml] at hz
                cases hz
                simpa using k2 m hm
          · rw [if_neg hs] at q2
            exact q2.elim
end
/-! for k in e: e an expression for a dict of the store -/
def sForDE (m : EM) (p : Pt) (b : SM) : SM := fun ρ G => match m ρ G with
  | .ok (.obj j) _ => (match G[j]? with
    | some (.dic l) => unlkS j ((m ρ (G.set j (.lok l))).toS fun v G1 => match v with
      | .obj i => if i = j then (match G1[j]? with
        | some (.lok l') => forIt p b (keysD l') ρ G1
        | _ => .bad) else .bad
      | _ => .bad)
    | _ => .bad)
  | _ => .bad
section
variable {X : Cx} {E : XK} {tg iter : PySem.Expr} {body : List Stmt} {p : Pt} {b : SM} {mi : EM} {pos : Pos}
theorem rs_forDE (hp : PassesOwn (model X.prog X.w) X.A X.env X.xe) (hc : X.calm = true) (hi : RE X E iter mi) (hg : RG X tg p) (hb : RSs X E body b) (hs : ∀ z, foldedSetIterable iter X.env z = pure z := by intro _; rfl) : RS X E (.For tg iter body [] pos) (sForDE mi p b) := by
  have r0 := ps_for hp hc (pi_keys hi) hg hb hs (pos := pos)
  have r1 := ps_lock r0
  refine ⟨fun pins s σ H D I ⟨ι, G, ρ, S, sl, q⟩ => ?_⟩
  unfold sForDE at q
  cases e : mi ρ G with
  | exc c G' => rw [e] at q; exact q.elim
  | bad => rw [e] at q; exact q.elim
  | ok v G' =>
    rw [e] at q
    cases v with
    | obj j =>
      dsimp only at q
      cases e2 : G[j]? with
      | none => rw [e2] at q; exact q.elim
      | some o =>
        rw [e2] at q
        cases o with
        | dic l =>
          obtain ⟨ks, h, k⟩ := lockO S e2
          have hj : j < G.length := (List.getElem?_eq_some_iff.mp e2).1
          refine r1.run pins s σ H D I ⟨ι j, _, h, trivial, fun od => ?_⟩
          obtain ⟨s1, x1, r2⟩ := k od
          have hl : (G.set j (.lok l)).length = G.length := List.length_set ..
          have q2 := spost_unlockO (l := l) (od := od) hj S h (by rw [hl] at x1; exact x1) q
          rw [← hl] at q2
          refine ⟨ι, G.set j (.lok l), ρ, s1, sl.ext x1, (SPost.ofRes q2).mono fun ι2 G2 H2 v x2 S2 q3 x rx => ?_⟩
          cases v with
          | obj i =>
            dsimp only at q3
            by_cases hij : i = j
            · subst hij
              rw [if_pos rfl] at q3
              cases e3 : G2[i]? with
              | none => rw [e3] at q3; exact q3.elim
              | some o2 =>
                rw [e3] at q3
                cases o2 with
                | lok l2 =>
                  obtain ⟨od2, ks2, h2, r3⟩ := S2.obj i _ e3
                  have ex : x = .ref (ι2 i) := rx.2
                  exact ⟨ι2 i, od2, ex, .inl ⟨ks2, h2, for_w (itk_w h2 r3).1 (itk_w h2 r3).2 S2 ((sl.ext x1).ext x2) q3⟩⟩
                | _ => exact q3.elim
            · rw [if_neg hij] at q3
              exact q3.elim
          | _ => exact q3.elim
        | _ => exact q.elim
    | _ => exact q.elim
end
end R1

/-! R3a: the mirror's steps as equations that simp walks. -/
namespace R1
open PySem
/-! ### the frame of the steps -/
section
variable {α β : Type} {G : Store} {ρ : Env1}
@[simp] theorem bind_ok {a : α} {f : α → Store → Res β} : (Res.ok a G).bind f = f a G := (rfl)
@[simp] theorem bind_bad {f : α → Store → Res β} : (Res.bad).bind f = .bad := (rfl)
@[simp] theorem bind_exc {c : Str} {f : α → Store → Res β} : (Res.exc c G).bind f = .exc c G := (rfl)
theorem bind_congr1 {r r' : Res α} {f : α → Store → Res β} (h : r = r') : r.bind f = r'.bind f := by rw [h]
@[simp] theorem toS_ok {a : α} {f : α → Store → SR} : (Res.ok a G).toS f = f a G := (rfl)
@[simp] theorem toS_bad {f : α → Store → SR} : (Res.bad).toS f = .bad := (rfl)
@[simp] theorem toS_exc {c : Str} {f : α → Store → SR} : (Res.exc c G).toS f = .exc c G := (rfl)
theorem toS_congr1 {r r' : Res α} {f : α → Store → SR} (h : r = r') : r.toS f = r'.toS f := by rw [h]
@[simp] theorem then_next {f : SM} : (SR.next ρ G).andThen f = f ρ G := (rfl)
@[simp] theorem then_ret {v : Val} {f : SM} : (SR.ret v G).andThen f = .ret v G := (rfl)
@[simp] theorem then_brk {f : SM} : (SR.brk ρ G).andThen f = .brk ρ G := (rfl)
@[simp] theorem then_cont {f : SM} : (SR.cont ρ G).andThen f = .cont ρ G := (rfl)
@[simp] theorem then_exc {c : Str} {f : SM} : (SR.exc c G).andThen f = .exc c G := (rfl)
@[simp] theorem then_bad {f : SM} : (SR.bad).andThen f = .bad := (rfl)
theorem then_congr1 {r r' : SR} {f : SM} (h : r = r') : r.andThen f = r'.andThen f := by rw [h]
/-! statements -/
@[simp] theorem v_seq {a b : SM} : sSeq a b ρ G = (a ρ G).andThen b := (rfl)
@[simp] theorem v_pass : sPass ρ G = .next ρ G := (rfl)
@[simp] theorem v_brk : sBrk ρ G = .brk ρ G := (rfl)
@[simp] theorem v_cont : sCont ρ G = .cont ρ G := (rfl)
@[simp] theorem v_retN : sRetN ρ G = .ret .non G := (rfl)
@[simp] theorem v_ret {m : EM} : sRet m ρ G = (m ρ G).toS fun v G1 => .ret v G1 := (rfl)
@[simp] theorem v_ex {m : EM} : sEx m ρ G = (m ρ G).toS fun _ G1 => .next ρ G1 := (rfl)
@[simp] theorem v_set {i : Nat} {m : EM} : sSet i m ρ G = (m ρ G).toS fun v G1 => .next (ρ.set i (some v)) G1 := (rfl)
@[simp] theorem v_if {t : TM} {a b : SM} : sIf t a b ρ G = (t ρ G).toS fun k G1 => if k = true then a ρ G1 else b ρ G1 := (rfl)
@[simp] theorem v_un {p : Pt} {m : EM} : sUn p m ρ G = (m ρ G).toS fun v G1 => match ptSet G1 p v ρ with
  | some ρ' => .next ρ' G1
  | none => .bad := (rfl)
@[simp] theorem v_unA {l : List Nat} {m : EM} : sUnA l m ρ G = (m ρ G).toS fun v G1 => match (tupOf G1 v).bind fun vs => setAll l vs ρ with
  | some ρ' => .next ρ' G1
  | none => .bad := (rfl)
@[simp] theorem v_par {i j : Nat} {k : AM} : sPar i j k ρ G = (k ρ G).toS fun vs G1 => match vs with
  | [v, w] => .next ((ρ.set i (some v)).set j (some w)) G1
  | _ => .bad := (rfl)
@[simp] theorem v_put {o m e : EM} : sPut o m e ρ G = (e ρ G).toS fun w G1 => (o ρ G1).toS fun v G2 => (m ρ G2).toS fun u G3 => match putA v u w G3 with
  | some G4 => .next ρ G4
  | none => .bad := (rfl)
@[simp] theorem v_fld {c p : Nat} {o m : EM} : sFld1 c p o m ρ G = (m ρ G).toS fun v G1 => (o ρ G1).toS fun w G2 => match setFld c p w v G2 with
  | some G3 => .next ρ G3
  | none => .bad := (rfl)
@[simp] theorem v_ixaug {o m e : EM} : sIxAug o m e ρ G = (o ρ G).toS fun v G1 => (m ρ G1).toS fun u G2 => (fIxL v u G2).toS fun a G3 => (e ρ G3).toS fun b G4 => match addI a b with
  | some c => (match setIx v u c G4 with
    | some G5 => .next ρ G5
    | none => .bad)
  | none => .bad := (rfl)
@[simp] theorem v_aug {i : Nat} {m : EM} : sAug i m ρ G = match ρ[i]? with
  | some (some v) => (m ρ G).toS fun w G1 => (match addI v w with
    | some z => .next (ρ.set i (some z)) G1
    | none => .bad)
  | _ => .bad := (rfl)
@[simp] theorem addI_ii {a b : Int} : addI (.int a) (.int b) = some (.int (a + b)) := (rfl)
/-! walks -/
@[simp] theorem v_forR {rng : List Val → Option (List Val)} {m : AM} {p : Pt} {b : SM} : sForR rng m p b ρ G = (m ρ G).toS fun vs G1 => match rng vs with
  | some l => forIt p b l ρ G1
  | none => .bad := (rfl)
@[simp] theorem v_forA {m : EM} {p : Pt} {b : SM} : sForA m p b ρ G = (m ρ G).toS fun v G1 => match v with
  | .tup l => forIt p b l ρ G1
  | .fro l => forIt p b l ρ G1
  | .obj i => (match G1[i]? with
    | some (.lst l) => forOb p b i l 0 ρ G1
    | _ => .bad)
  | _ => .bad := (rfl)
@[simp] theorem v_forNil {p : Pt} {b : SM} : forIt p b [] ρ G = .next ρ G := (rfl)
theorem v_forCons {p : Pt} {b : SM} {v : Val} {r : List Val} : forIt p b (v :: r) ρ G = match ptSet G p v ρ with
  | none => .bad
  | some ρ1 => (match b ρ1 G with
    | .next ρ' G' => forIt p b r ρ' G'
    | .cont ρ' G' => forIt p b r ρ' G'
    | .brk ρ' G' => .next ρ' G'
    | r => r) := by
  show turn1 p b v (forIt p b r) ρ G = _
  unfold turn1
  cases ptSet G p v ρ with
  | none => rfl
  | some ρ1 => rfl
@[simp] theorem pt_nm {i : Nat} {v : Val} : ptSet G (.nm i) v ρ = some (ρ.set i (some v)) := (rfl)
@[simp] theorem pt_tup {is : List Nat} {vs : List Val} : ptSet G (.tup is) (.tup vs) ρ = setAll is vs ρ := (rfl)
@[simp] theorem setAll_nil : setAll [] [] ρ = some ρ := (rfl)
@[simp] theorem setAll_cons {i : Nat} {is : List Nat} {v : Val} {vs : List Val} : setAll (i :: is) (v :: vs) ρ = setAll is vs (ρ.set i (some v)) := (rfl)
/-! expressions -/
@[simp] theorem e_var {i : Nat} : eVar i ρ G = match ρ[i]? with
  | some (some v) => .ok v G
  | _ => .bad := (rfl)
@[simp] theorem e_c {v : Val} : eC v ρ G = .ok v G := (rfl)
@[simp] theorem e_op {f : F2} {a b : EM} : eOp f a b ρ G = (a ρ G).bind fun v G1 => (b ρ G1).bind fun u G2 => f v u G2 := (rfl)
@[simp] theorem e_test {m : EM} : eTest m ρ G = (m ρ G).bind fun v G1 => match v with
  | .bl b => .ok b G1
  | _ => .bad := (rfl)
@[simp] theorem e_truth {m : EM} : eTruth m ρ G = (m ρ G).bind fun v G1 => match truth G1 v with
  | some b => .ok b G1
  | none => .bad := (rfl)
@[simp] theorem e_tnot {m : TM} : tNot1 m ρ G = (m ρ G).bind fun b G1 => .ok (!b) G1 := (rfl)
@[simp] theorem e_tand {m k : TM} : tAnd1 m k ρ G = (m ρ G).bind fun b G1 => if b = true then k ρ G1 else .ok false G1 := (rfl)
@[simp] theorem e_tor {m k : TM} : tOr1 m k ρ G = (m ρ G).bind fun b G1 => if b = true then .ok true G1 else k ρ G1 := (rfl)
@[simp] theorem e_not {m : EM} : eNot m ρ G = (m ρ G).bind fun v G1 => match v with
  | .bl b => .ok (.bl (!b)) G1
  | _ => .bad := (rfl)
@[simp] theorem e_and {m k : EM} : eAnd m k ρ G = (m ρ G).bind fun v G1 => match v with
  | .bl true => k ρ G1
  | .bl false => .ok (.bl false) G1
  | _ => .bad := (rfl)
@[simp] theorem e_or {m k : EM} : eOr m k ρ G = (m ρ G).bind fun v G1 => match v with
  | .bl true => .ok (.bl true) G1
  | .bl false => k ρ G1
  | _ => .bad := (rfl)
@[simp] theorem e_if {t : TM} {a b : EM} : eIf t a b ρ G = (t ρ G).bind fun k G1 => if k = true then a ρ G1 else b ρ G1 := (rfl)
@[simp] theorem e_neg {m : EM} : eNeg m ρ G = (m ρ G).bind fun v G1 => match v with
  | .int i => .ok (.int (-i)) G1
  | _ => .bad := (rfl)
@[simp] theorem e_aNil : aNil ρ G = .ok [] G := (rfl)
@[simp] theorem e_aCons {m : EM} {k : AM} : aCons m k ρ G = (m ρ G).bind fun v G1 => (k ρ G1).bind fun vs G2 => .ok (v :: vs) G2 := (rfl)
theorem small_line {n : Nat} (h : n ≤ 1000000) : n ≤ sizeLine := Nat.le_trans h (by decide)
theorem small_lt {n : Nat} (h : n ≤ 1000000) : n < sizeLine := Nat.lt_of_le_of_lt h (by decide)
@[simp] theorem e_tup {k : AM} : eTup k ρ G = (k ρ G).bind fun vs G1 => if vs.length ≤ sizeLine then .ok (.tup vs) G1 else .bad := (rfl)
@[simp] theorem e_lst {z : Bool} {k : AM} : eLst z k ρ G = (k ρ G).bind fun vs G1 => if vs.length ≤ sizeLine then mkL z vs G1 else .bad := (rfl)
@[simp] theorem e_dic0 {z : Bool} : eDic0 z ρ G = mkD z [] G := (rfl)
@[simp] theorem mkL_t {l : List Val} : mkL true l G = .ok (.fro l) G := (rfl)
@[simp] theorem mkL_f {l : List Val} : mkL false l G = .ok (.obj G.length) (G ++ [.lst l]) := (rfl)
@[simp] theorem mkD_t {l : List (Ky × Val)} : mkD true l G = .ok (.frd l) G := (rfl)
@[simp] theorem mkD_f {l : List (Ky × Val)} : mkD false l G = .ok (.obj G.length) (G ++ [.dic l]) := (rfl)
@[simp] theorem sz0 : (0 ≤ sizeLine) = True := by simp
@[simp] theorem szn {n : Nat} (h : n.ble 1000 = true) : (n ≤ sizeLine) = True := eq_true (small_line (by have := Nat.le_of_ble_eq_true h; omega))
@[simp] theorem e_call {f : F1} {k : AM} : eCall f k ρ G = (k ρ G).bind fun vs G1 => f vs G1 := (rfl)
@[simp] theorem e_callF {f : F1} {dv : List Val} {k : AM} : eCallF f dv k ρ G = (k ρ G).bind fun vs G1 => f (vs ++ dv) G1 := (rfl)
@[simp] theorem e_sl {z : Bool} {m : EM} {lo hi : OM} : eSl z m lo hi ρ G = (m ρ G).bind fun v G1 => (lo ρ G1).bind fun l G2 => (hi ρ G2).bind fun u G3 => fSl z v l u G3 := (rfl)
@[simp] theorem e_oNone : oNone ρ G = .ok none G := (rfl)
@[simp] theorem e_oSome {m : EM} : oSome m ρ G = (m ρ G).bind fun v G1 => match v with
  | .int i => .ok (some i) G1
  | _ => .bad := (rfl)
@[simp] theorem e_isi {ty : String} {m : EM} : eIsi ty m ρ G = (m ρ G).bind fun v G1 => match tyN G1 v with
  | some n => .ok (.bl (isTy ty n)) G1
  | none => .bad := (rfl)
@[simp] theorem e_dget2 {o m d : EM} : eDget2 o m d ρ G = (o ρ G).bind fun v G1 => match dicOf G1 v with
  | none => .bad
  | some _ => (m ρ G1).bind fun u G2 => (d ρ G2).bind fun z G3 => (match dicOf G3 v, keyOf u with
    | some l, some k => .ok ((lookK l k).getD z) G3
    | _, _ => .bad) := (rfl)
@[simp] theorem e_dget {o m : EM} {f : Option Val → Option Val} : eDget o m f ρ G = (o ρ G).bind fun v G1 => match dicOf G1 v with
  | none => .bad
  | some _ => (m ρ G1).bind fun u G2 => (match dicOf G2 v, keyOf u with
    | some l, some k => (match f (lookK l k) with
      | some w => .ok w G2
      | none => .bad)
    | _, _ => .bad) := (rfl)
@[simp] theorem e_chain {f g : F2} {a b c : EM} : eChain f g a b c ρ G = (a ρ G).bind fun v G1 => (b ρ G1).bind fun u G2 => (f v u G2).bind fun k G3 => match k with
  | .bl true => (c ρ G3).bind fun w G4 => g u w G4
  | .bl false => .ok (.bl false) G3
  | _ => .bad := (rfl)
@[simp] theorem dic_frd {l : List (Ky × Val)} : dicOf G (.frd l) = some l := (rfl)
@[simp] theorem key_int {i : Int} : keyOf (.int i) = some (.inl i) := (rfl)
@[simp] theorem key_str {i : Nat} : keyOf (.str i) = some (.inr i) := (rfl)
end
/-! ### a def -/
def fin (r : SR) : Res Val := match r with
  | .next _ G' => .ok .non G'
  | .ret v G' => .ok v G'
  | .exc c G' => .exc c G'
  | _ => .bad
section
variable {G J : Store} {ρ : Env1} {v : Val}
@[simp] theorem fin_next : fin (.next ρ G) = .ok .non G := (rfl)
@[simp] theorem fin_ret : fin (.ret v G) = .ok v G := (rfl)
@[simp] theorem fin_exc {c : Str} : fin (.exc c G) = .exc c G := (rfl)
theorem run_eq {N np : Nat} {b : SM} {vs : List Val} (h : vs.length = np) : runDef N np b vs G = fin (b (vs.map some ++ List.replicate (N - np) none) G) := by
  unfold runDef fin
  rw [if_pos h]
  all_goals (cases b (vs.map some ++ List.replicate (N - np) none) G <;> rfl)
theorem runT_eq {N np : Nat} {b : SM} {vs : List Val} (h : vs.length = np) : runDefT N np b vs G = trunc G (fin (b (vs.map some ++ List.replicate (N - np) none) G)) := by
  unfold runDefT
  rw [run_eq h]
mutual
theorem clo_mono {n m : Nat} (h : n ≤ m) : ∀ {v : Val}, clo n v = true → clo m v = true
  | .non, _ => rfl
  | .bl _, _ => rfl
  | .int _, _ => rfl
  | .str _, _ => rfl
  | .tup l, c => cloL_mono h (l := l) c
  | .fro l, c => cloL_mono h (l := l) c
  | .scr l, c => cloL_mono h (l := l) c
  | .frd l, c => cloD_mono h (l := l) c
  | .obj i, c => decide_eq_true (Nat.lt_of_lt_of_le (of_decide_eq_true c) h)
theorem cloL_mono {n m : Nat} (h : n ≤ m) : ∀ {l : List Val}, cloL n l = true → cloL m l = true
  | [], _ => rfl
  | v :: l, c => by
    obtain ⟨c1, c2⟩ := Bool.and_eq_true_iff.mp c
    exact Bool.and_eq_true_iff.mpr ⟨clo_mono h c1, cloL_mono h c2⟩
theorem cloD_mono {n m : Nat} (h : n ≤ m) : ∀ {l : List (Ky × Val)}, cloD n l = true → cloD m l = true
  | [], _ => rfl
  | (k, v) :: l, c => by
    obtain ⟨c1, c2⟩ := Bool.and_eq_true_iff.mp c
    exact Bool.and_eq_true_iff.mpr ⟨clo_mono h c1, cloD_mono h c2⟩
end
/-- a value without objects -/
def dat (v : Val) : Bool := clo 0 v
def datL1 (l : List Val) : Bool := cloL 0 l
def datD (l : List (Ky × Val)) : Bool := cloD 0 l
@[simp] theorem dat_non : dat .non = true := (rfl)
@[simp] theorem dat_bl {b : Bool} : dat (.bl b) = true := (rfl)
@[simp] theorem dat_int {i : Int} : dat (.int i) = true := (rfl)
@[simp] theorem dat_str {i : Nat} : dat (.str i) = true := (rfl)
@[simp] theorem dat_tup {l : List Val} : dat (.tup l) = datL1 l := (rfl)
@[simp] theorem dat_fro {l : List Val} : dat (.fro l) = datL1 l := (rfl)
@[simp] theorem dat_frd {l : List (Ky × Val)} : dat (.frd l) = datD l := (rfl)
@[simp] theorem datL_nil : datL1 [] = true := (rfl)
@[simp] theorem datL_cons {l : List Val} : datL1 (v :: l) = (dat v && datL1 l) := (rfl)
@[simp] theorem datD_nil : datD [] = true := (rfl)
@[simp] theorem datD_cons {k : Ky} {l : List (Ky × Val)} : datD ((k, v) :: l) = (dat v && datD l) := (rfl)
theorem datL_iff : ∀ {l : List Val}, datL1 l = true ↔ ∀ v ∈ l, dat v = true
  | [] => by simp
  | v :: l => by
    rw [datL_cons, Bool.and_eq_true_iff, datL_iff (l := l)]
    simp
theorem datD_iff : ∀ {l : List (Ky × Val)}, datD l = true ↔ ∀ q ∈ l, dat q.2 = true
  | [] => by simp
  | (k, v) :: l => by
    rw [datD_cons, Bool.and_eq_true_iff, datD_iff (l := l)]
    simp
@[simp] theorem datL_app {l m : List Val} : datL1 (l ++ m) = (datL1 l && datL1 m) := by
  rw [Bool.eq_iff_iff, Bool.and_eq_true_iff, datL_iff, datL_iff, datL_iff]
  simp only [List.mem_append]
  exact ⟨fun h => ⟨fun v hv => h v (.inl hv), fun v hv => h v (.inr hv)⟩, fun h v hv => hv.elim (h.1 v) (h.2 v)⟩
theorem trunc_d (h : dat v = true) : trunc G (.ok v (G ++ J)) = .ok v G := by
  unfold trunc
  have h1 : clo G.length v = true := clo_mono (Nat.zero_le _) h
  have h2 : frzV G.length (G ++ J) v = some v := by
    cases v with
    | tup l => exact if_pos h1
    | obj i => simp [dat, clo] at h
    | _ => exact (if_pos h1 : (if clo G.length _ = true then some _ else none) = some _)
  dsimp only
  rw [h2]
  simp
theorem trunc_d0 (h : dat v = true) : trunc G (.ok v G) = .ok v G := by
  have := trunc_d (G := G) (J := []) h
  simpa using this
theorem trunc_l {l : List Val} {k : Nat} (hk : J[k]? = some (.lst l)) (h : datL1 l = true) : trunc G (.ok (.obj (G.length + k)) (G ++ J)) = .ok (.fro l) G := by
  unfold trunc
  have h1 : cloL G.length l = true := cloL_mono (Nat.zero_le _) h
  have h2 : frzV G.length (G ++ J) (.obj (G.length + k)) = some (.fro l) := by
    show (if G.length + k < G.length then _ else _) = _
    rw [if_neg (by omega), List.getElem?_append_right (by omega), Nat.add_sub_cancel_left, hk]
    simp [h1]
  dsimp only
  rw [h2]
  simp
theorem trunc_l0 {l : List Val} (h : datL1 l = true) : trunc G (.ok (.obj G.length) (G ++ [.lst l])) = .ok (.fro l) G := trunc_l (k := 0) rfl h
theorem trunc_k {l : List (Ky × Val)} {k : Nat} (hk : J[k]? = some (.dic l)) (h : datD l = true) : trunc G (.ok (.obj (G.length + k)) (G ++ J)) = .ok (.frd l) G := by
  unfold trunc
  have h1 : cloD G.length l = true := cloD_mono (Nat.zero_le _) h
  have h2 : frzV G.length (G ++ J) (.obj (G.length + k)) = some (.frd l) := by
    show (if G.length + k < G.length then _ else _) = _
    rw [if_neg (by omega), List.getElem?_append_right (by omega), Nat.add_sub_cancel_left, hk]
    simp [h1]
  dsimp only
  rw [h2]
  simp
theorem trunc_k0 {l : List (Ky × Val)} (h : datD l = true) : trunc G (.ok (.obj G.length) (G ++ [.dic l])) = .ok (.frd l) G := trunc_k (k := 0) rfl h
/-! ### the store's new part -/
@[simp] theorem get_0 : (G ++ J)[G.length]? = J[0]? := by rw [List.getElem?_append_right (Nat.le_refl _), Nat.sub_self]
@[simp] theorem get_k {k : Nat} : (G ++ J)[G.length + k]? = J[k]? := by rw [List.getElem?_append_right (Nat.le_add_right _ _), Nat.add_sub_cancel_left]
@[simp] theorem set_0 {o : Ob} : (G ++ J).set G.length o = G ++ J.set 0 o := by rw [List.set_append_right _ _ (Nat.le_refl _), Nat.sub_self]
@[simp] theorem set_k {k : Nat} {o : Ob} : (G ++ J).set (G.length + k) o = G ++ J.set k o := by rw [List.set_append_right _ _ (Nat.le_add_right _ _), Nat.add_sub_cancel_left]
theorem get_old {i : Nat} {o : Ob} (h : G[i]? = some o) : (G ++ J)[i]? = some o := by
  rw [List.getElem?_append_left (List.getElem?_eq_some_iff.mp h).1]
  exact h
end
/-! ### operators on known values -/
section
variable {G : Store} {a b : Int} {l m : List Val} {v w : Val} {z : Bool}
@[simp] theorem fAdd_ii : fAdd z (.int a) (.int b) G = .ok (.int (a + b)) G := (rfl)
@[simp] theorem fSub_ii : fSub (.int a) (.int b) G = .ok (.int (a - b)) G := (rfl)
@[simp] theorem fLt_ii : fLt (.int a) (.int b) G = .ok (.bl (decide (a < b))) G := (rfl)
@[simp] theorem fLe_ii : fLe (.int a) (.int b) G = .ok (.bl (decide (a ≤ b))) G := (rfl)
@[simp] theorem fGt_ii : fGt (.int a) (.int b) G = .ok (.bl (decide (b < a))) G := (rfl)
@[simp] theorem fGe_ii : fGe (.int a) (.int b) G = .ok (.bl (decide (b ≤ a))) G := (rfl)
theorem fMul_l (h : inRng a = true) : fMul z (.int a) (.int b) G = .ok (.int (a * b)) G := by
  unfold fMul orF fMulI fI
  simp [h]
theorem fMul_r (h : inRng b = true) : fMul z (.int a) (.int b) G = .ok (.int (a * b)) G := by
  unfold fMul orF fMulI fI
  simp [h]
theorem fDiv_ii (h : 0 < b) (h2 : b < 1073741824) : fDiv (.int a) (.int b) G = .ok (.int (a / b)) G := by
  unfold fDiv fI
  simp [h, h2]
theorem fMod_ii (h : 0 < b) : fMod (.int a) (.int b) G = .ok (.int (a % b)) G := by
  unfold fMod fI
  simp [h]
@[simp] theorem fIs_n : fIs v .non G = .ok (.bl (isNon v)) G := (rfl)
@[simp] theorem fIsNot_n : fIsNot v .non G = .ok (.bl (!isNon v)) G := (rfl)
@[simp] theorem isNon_non : isNon .non = true := (rfl)
@[simp] theorem isNon_int : isNon (.int a) = false := (rfl)
@[simp] theorem isNon_bl {b : Bool} : isNon (.bl b) = false := (rfl)
@[simp] theorem isNon_str {b : Nat} : isNon (.str b) = false := (rfl)
@[simp] theorem isNon_tup : isNon (.tup l) = false := (rfl)
/-! items -/
theorem atL_nat {k : Nat} : atL l (k : Int) = l[k]? := by
  unfold atL L2.atI
  by_cases h : k < l.length
  · have e3 : L2.ixN l.length (k : Int) = some k := by
      unfold L2.ixN
      simp
      omega
    rw [e3]
    rfl
  · have e3 : L2.ixN l.length (k : Int) = none := by
      unfold L2.ixN
      simp
      omega
    rw [e3, List.getElem?_eq_none (by omega)]
    rfl
@[simp] theorem items_tup : itemsOf G (.tup l) = some l := (rfl)
@[simp] theorem items_fro : itemsOf G (.fro l) = some l := (rfl)
@[simp] theorem items_scr : itemsOf G (.scr l) = some l := (rfl)
theorem fIx_at {k : Nat} (h : itemsOf G v = some l) (e : l[k]? = some w) : fIx v (.int (k : Int)) G = .ok w G := by
  unfold fIx orF fIxS
  rw [h]
  simp only [atL_nat, e]
theorem fIx_tup {k : Nat} (e : l[k]? = some w) : fIx (.tup l) (.int (OfNat.ofNat k)) G = .ok w G := fIx_at (k := k) (l := l) rfl e
theorem fIx_fro {k : Nat} (e : l[k]? = some w) : fIx (.fro l) (.int (OfNat.ofNat k)) G = .ok w G := fIx_at (k := k) (l := l) rfl e
@[simp] theorem fIx_t0 : fIx (.tup (v :: l)) (.int 0) G = .ok v G := fIx_at (k := 0) (l := v :: l) rfl rfl
@[simp] theorem fIx_t1 {v1 : Val} : fIx (.tup (v1 :: v :: l)) (.int 1) G = .ok v G := fIx_at (k := 1) (l := v1 :: v :: l) rfl rfl
@[simp] theorem fIx_t2 {v1 v2 : Val} : fIx (.tup (v1 :: v2 :: v :: l)) (.int 2) G = .ok v G := fIx_at (k := 2) (l := v1 :: v2 :: v :: l) rfl rfl
@[simp] theorem fIx_t3 {v1 v2 v3 : Val} : fIx (.tup (v1 :: v2 :: v3 :: v :: l)) (.int 3) G = .ok v G := fIx_at (k := 3) (l := v1 :: v2 :: v3 :: v :: l) rfl rfl
@[simp] theorem fIx_t4 {v1 v2 v3 v4 : Val} : fIx (.tup (v1 :: v2 :: v3 :: v4 :: v :: l)) (.int 4) G = .ok v G := fIx_at (k := 4) (l := v1 :: v2 :: v3 :: v4 :: v :: l) rfl rfl
@[simp] theorem fIx_t5 {v1 v2 v3 v4 v5 : Val} : fIx (.tup (v1 :: v2 :: v3 :: v4 :: v5 :: v :: l)) (.int 5) G = .ok v G := fIx_at (k := 5) (l := v1 :: v2 :: v3 :: v4 :: v5 :: v :: l) rfl rfl
@[simp] theorem fIx_f0 : fIx (.fro (v :: l)) (.int 0) G = .ok v G := fIx_at (k := 0) (l := v :: l) rfl rfl
@[simp] theorem fIx_f1 {v1 : Val} : fIx (.fro (v1 :: v :: l)) (.int 1) G = .ok v G := fIx_at (k := 1) (l := v1 :: v :: l) rfl rfl
@[simp] theorem fIx_f2 {v1 v2 : Val} : fIx (.fro (v1 :: v2 :: v :: l)) (.int 2) G = .ok v G := fIx_at (k := 2) (l := v1 :: v2 :: v :: l) rfl rfl
@[simp] theorem fIx_f3 {v1 v2 v3 : Val} : fIx (.fro (v1 :: v2 :: v3 :: v :: l)) (.int 3) G = .ok v G := fIx_at (k := 3) (l := v1 :: v2 :: v3 :: v :: l) rfl rfl
@[simp] theorem fIx_f4 {v1 v2 v3 v4 : Val} : fIx (.fro (v1 :: v2 :: v3 :: v4 :: v :: l)) (.int 4) G = .ok v G := fIx_at (k := 4) (l := v1 :: v2 :: v3 :: v4 :: v :: l) rfl rfl
@[simp] theorem fIx_f5 {v1 v2 v3 v4 v5 : Val} : fIx (.fro (v1 :: v2 :: v3 :: v4 :: v5 :: v :: l)) (.int 5) G = .ok v G := fIx_at (k := 5) (l := v1 :: v2 :: v3 :: v4 :: v5 :: v :: l) rfl rfl
@[simp] theorem fIx_t6 {v1 v2 v3 v4 v5 v6 : Val} : fIx (.tup (v1 :: v2 :: v3 :: v4 :: v5 :: v6 :: v :: l)) (.int 6) G = .ok v G := fIx_at (k := 6) (l := v1 :: v2 :: v3 :: v4 :: v5 :: v6 :: v :: l) rfl rfl
@[simp] theorem fIx_t7 {v1 v2 v3 v4 v5 v6 v7 : Val} : fIx (.tup (v1 :: v2 :: v3 :: v4 :: v5 :: v6 :: v7 :: v :: l)) (.int 7) G = .ok v G := fIx_at (k := 7) (l := v1 :: v2 :: v3 :: v4 :: v5 :: v6 :: v7 :: v :: l) rfl rfl
@[simp] theorem fIx_t8 {v1 v2 v3 v4 v5 v6 v7 v8 : Val} : fIx (.tup (v1 :: v2 :: v3 :: v4 :: v5 :: v6 :: v7 :: v8 :: v :: l)) (.int 8) G = .ok v G := fIx_at (k := 8) (l := v1 :: v2 :: v3 :: v4 :: v5 :: v6 :: v7 :: v8 :: v :: l) rfl rfl
@[simp] theorem fIx_f6 {v1 v2 v3 v4 v5 v6 : Val} : fIx (.fro (v1 :: v2 :: v3 :: v4 :: v5 :: v6 :: v :: l)) (.int 6) G = .ok v G := fIx_at (k := 6) (l := v1 :: v2 :: v3 :: v4 :: v5 :: v6 :: v :: l) rfl rfl
@[simp] theorem fIx_f7 {v1 v2 v3 v4 v5 v6 v7 : Val} : fIx (.fro (v1 :: v2 :: v3 :: v4 :: v5 :: v6 :: v7 :: v :: l)) (.int 7) G = .ok v G := fIx_at (k := 7) (l := v1 :: v2 :: v3 :: v4 :: v5 :: v6 :: v7 :: v :: l) rfl rfl
@[simp] theorem fIx_f8 {v1 v2 v3 v4 v5 v6 v7 v8 : Val} : fIx (.fro (v1 :: v2 :: v3 :: v4 :: v5 :: v6 :: v7 :: v8 :: v :: l)) (.int 8) G = .ok v G := fIx_at (k := 8) (l := v1 :: v2 :: v3 :: v4 :: v5 :: v6 :: v7 :: v8 :: v :: l) rfl rfl
theorem fIx_dic {d : List (Ky × Val)} {k : Ky} {u : Val} (h : dicOf G v = some d) (hi : itemsOf G v = none) (hk : keyOf u = some k) (e : lookK d k = some w) : fIx v u G = .ok w G := by
  unfold fIx orF fIxS fIxD
  rw [h, hi, hk]
  cases u with
  | int i => simp only [e]
  | str i => simp only [e]
  | _ => cases hk
theorem fIx_frd {d : List (Ky × Val)} {k : Int} (e : lookK d (.inl k) = some w) : fIx (.frd d) (.int k) G = .ok w G := fIx_dic (d := d) rfl rfl rfl e
/-! built-ins -/
@[simp] theorem bLen_tup : bLen [.tup l] G = .ok (.int l.length) G := (rfl)
@[simp] theorem bLen_fro : bLen [.fro l] G = .ok (.int l.length) G := (rfl)
@[simp] theorem bLen_scr : bLen [.scr l] G = .ok (.int l.length) G := (rfl)
@[simp] theorem bInt_i : bInt [.int a] G = .ok (.int a) G := (rfl)
@[simp] theorem bInt_b {b : Bool} : bInt [.bl b] G = .ok (.int (if b then 1 else 0)) G := (rfl)
@[simp] theorem bAbs_i : bAbs [.int a] G = .ok (.int (if a < 0 then -a else a)) G := (rfl)
@[simp] theorem bMax_ii : bMax [.int a, .int b] G = .ok (.int (if b > a then b else a)) G := (rfl)
@[simp] theorem bMin_ii : bMin [.int a, .int b] G = .ok (.int (if b < a then b else a)) G := (rfl)
@[simp] theorem bTuple_tup : bTuple [.tup l] G = .ok (.tup l) G := (rfl)
@[simp] theorem bTuple_fro : bTuple [.fro l] G = .ok (.tup l) G := (rfl)
@[simp] theorem bListA_tup : bListA z [.tup l] G = mkL z l G := by
  unfold bListA orF1 bList
  simp only [items_tup]
  cases z <;> rfl
@[simp] theorem bListA_fro : bListA z [.fro l] G = mkL z l G := by
  unfold bListA orF1 bList
  simp only [items_fro]
  cases z <;> rfl
@[simp] theorem bListA_scr : bListA z [.scr l] G = mkL z l G := by
  unfold bListA orF1 bList
  simp only [items_scr]
  cases z <;> rfl
@[simp] theorem bDictX_frd {d : List (Ky × Val)} : bDictX z [.frd d] G = mkD z d G := by
  unfold bDictX orF1
  cases z <;> rfl
@[simp] theorem bDict_frd {d : List (Ky × Val)} : bDict z [.frd d] G = mkD z d G := (rfl)
@[simp] theorem tyN_non : tyN G .non = some "NoneType" := (rfl)
@[simp] theorem tyN_bl {b : Bool} : tyN G (.bl b) = some "bool" := (rfl)
@[simp] theorem tyN_int : tyN G (.int a) = some "int" := (rfl)
@[simp] theorem tyN_str {k : Nat} : tyN G (.str k) = some "str" := (rfl)
@[simp] theorem tyN_tup : tyN G (.tup l) = some "tuple" := (rfl)
@[simp] theorem tyN_fro : tyN G (.fro l) = some "list" := (rfl)
@[simp] theorem truth_bl {b : Bool} : truth G (.bl b) = some b := (rfl)
@[simp] theorem truth_fro : truth G (.fro l) = some (!l.isEmpty) := (rfl)
@[simp] theorem lst_fro : lstOf G (.fro l) = some l := (rfl)
theorem asInts_map : ∀ ns : List Int, asInts (ns.map Val.int) = some ns
  | [] => rfl
  | n :: ns => by
    show (asInts (ns.map Val.int)).map (n :: ·) = some (n :: ns)
    rw [asInts_map ns]
    rfl
theorem sortI_perm (l : List Int) : (sortI l).Perm l := List.mergeSort_perm l _
theorem sortI_sorted (l : List Int) : (sortI l).Pairwise (· ≤ ·) := by
  have h := List.pairwise_mergeSort (le := fun a b : Int => decide (a ≤ b)) (fun a b c h1 h2 => by simp at *; omega) (fun a b => by simp; omega) l
  exact h.imp fun h => of_decide_eq_true h
theorem bSortX_ints {ns : List Int} (h : lstOf G v = some (ns.map Val.int)) : bSortX [v] G = .ok (.fro ((sortI ns).map Val.int)) G := by
  have e : bSortL [v] G = .ok (.fro ((sortI ns).map Val.int)) G := by
    unfold bSortL itemsL
    dsimp only
    rw [h]
    simp only [Option.bind, asInts_map]
  unfold bSortX orF1 bSortA orF1
  rw [e]
theorem asTups_map (n : Nat) : ∀ {ns : List (List Int)}, (∀ x ∈ ns, x.length = n + 1) → asTups n (ns.map tupI) = some ns
  | [], _ => rfl
  | x :: ns, h => by
    show asTups n (tupI x :: ns.map tupI) = _
    unfold tupI asTups
    rw [asInts_map, show asTups n (ns.map fun l => Val.tup (l.map Val.int)) = some ns from asTups_map n fun y hy => h y (List.mem_cons_of_mem _ hy)]
    simp [h x (List.mem_cons_self ..)]
theorem bSortX_tups {ns : List (List Int)} (n : Nat) (h : lstOf G v = some (ns.map tupI)) (hn : ∀ x ∈ ns, x.length = n + 1) (hl : ns.length ≤ 1000000) (h0 : ns ≠ []) : bSortX [v] G = .ok (.fro ((sortT ns).map tupI)) G := by
  obtain ⟨x, r, rfl⟩ := List.exists_cons_of_ne_nil h0
  have e1 : bSortL [v] G = .bad := by
    unfold bSortL itemsL
    dsimp only
    rw [h]
    rfl
  have e2 : bSortD [v] G = .bad := by
    unfold bSortD
    have : dicOf G v = none := by
      unfold lstOf at h
      cases v with
      | obj i =>
        dsimp only at h
        unfold dicOf
        dsimp only
        cases e : G[i]? with
        | none => rfl
        | some o =>
          rw [e] at h
          cases o with
          | lst l => rfl
          | _ => cases h
      | fro l => rfl
      | _ => cases h
    dsimp only
    rw [this]
    rfl
  have e3 : firstLen ((x :: r).map tupI) = n := by
    show (x.map Val.int).length - 1 = n
    rw [List.length_map, hn x (List.mem_cons_self ..)]
    rfl
  have e : bSortT [v] G = .ok (.fro ((sortT (x :: r)).map tupI)) G := by
    unfold bSortT
    dsimp only
    rw [h]
    simp only [Option.bind, e3, asTups_map n hn]
    rw [if_pos (small_line hl)]
  unfold bSortX orF1 bSortA orF1
  rw [e1, e2]
  exact e
end
/-! ### comprehensions whose parts keep the store -/
section
variable {p : Pt} {tt : TM} {te tk tv : EM} {ρw : Env1} {G : Store}
theorem lcF_pure {f : Val → Bool} {g : Val → Val} : ∀ {l : List Val}, (∀ v ∈ l, ∃ ρ2, ptSet G p v ρw = some ρ2 ∧ tt ρ2 G = .ok (f v) G ∧ (f v = true → te ρ2 G = .ok (g v) G)) → lcF p tt te ρw l G = .ok ((l.filter f).map g) G
  | [], _ => rfl
  | v :: l, h => by
    obtain ⟨ρ2, e1, e2, e3⟩ := h v (List.mem_cons_self ..)
    have ih := lcF_pure fun w hw => h w (List.mem_cons_of_mem _ hw)
    unfold lcF lcFT
    rw [e1]
    simp only [e2, bind_ok]
    by_cases hf : f v = true
    · rw [if_pos hf, e3 hf]
      simp [ih, hf]
    · rw [if_neg hf, ih]
      simp [hf]
@[simp] theorem froR_ok {z : Bool} {l : List Val} : froR z (.ok l G) = mkL z l G := (rfl)
@[simp] theorem frdR_ok {z : Bool} {l : List (Ky × Val)} : frdR z (.ok l G) = mkD z l G := (rfl)
@[simp] theorem tTrue_ok {ρ : Env1} : tTrue ρ G = .ok true G := (rfl)
/-- over known items -/
theorem eLcF_of {z : Bool} {m : EM} {own : List Nat} {ρ : Env1} {v : Val} {l : List Val} {f : Val → Bool} {g : Val → Val} (hm : m ρ G = .ok v G) (hv : v = .tup l ∨ v = .fro l) (hl : l.length ≤ 1000000)
    (h : ∀ v ∈ l, ∃ ρ2, ptSet G p v (wipe1 ρ own) = some ρ2 ∧ tt ρ2 G = .ok (f v) G ∧ (f v = true → te ρ2 G = .ok (g v) G)) : eLcF z m p tt te own ρ G = mkL z ((l.filter f).map g) G := by
  unfold eLcF
  rw [hm]
  rcases hv with rfl | rfl <;> (simp only [bind_ok]; rw [if_pos (small_line hl), lcF_pure h]; rfl)
theorem eLcFR_of {z : Bool} {rng : List Val → Option (List Val)} {m : AM} {own : List Nat} {ρ : Env1} {vs l : List Val} {f : Val → Bool} {g : Val → Val} (hm : m ρ G = .ok vs G) (hv : rng vs = some l) (hl : l.length ≤ 1000000)
    (h : ∀ v ∈ l, ∃ ρ2, ptSet G p v (wipe1 ρ own) = some ρ2 ∧ tt ρ2 G = .ok (f v) G ∧ (f v = true → te ρ2 G = .ok (g v) G)) : eLcFR z rng m p tt te own ρ G = mkL z ((l.filter f).map g) G := by
  unfold eLcFR
  rw [hm]
  simp only [bind_ok, hv]
  rw [if_pos (small_line hl), lcF_pure h]
  rfl
theorem dcF_pure {f : Val → Bool} {g : Val → Ky} {h : Val → Val} : ∀ {l : List Val} {acc : List (Ky × Val)}, (∀ v ∈ l, ∃ ρ2 u, ptSet G p v ρw = some ρ2 ∧ tt ρ2 G = .ok (f v) G ∧ (f v = true → tk ρ2 G = .ok u G ∧ keyOf u = some (g v) ∧ tv ρ2 G = .ok (h v) G)) → acc.length + l.length ≤ 1000000 →
    dcF p tt tk tv ρw l acc G = .ok ((l.filter f).foldl (fun a v => putKy a (g v) (h v)) acc) G
  | [], acc, _, _ => rfl
  | v :: l, acc, k, hl => by
    simp only [List.length_cons] at hl
    obtain ⟨ρ2, u, e1, e2, e3⟩ := k v (List.mem_cons_self ..)
    have k2 := fun w hw => k w (List.mem_cons_of_mem v hw)
    unfold dcF dcT
    rw [e1]
    simp only [e2, bind_ok]
    by_cases hf : f v = true
    · obtain ⟨e4, e5, e6⟩ := e3 hf
      have hp : (putKy acc (g v) (h v)).length ≤ acc.length + 1 := by
        unfold putKy
        split <;> simp
      rw [if_pos hf, e4]
      simp only [bind_ok, e6, e5]
      rw [if_pos (small_lt (by omega)), dcF_pure k2 (by omega)]
      simp [hf]
    · rw [if_neg hf, dcF_pure k2 (by omega)]
      simp [hf]
theorem eDc_of {z : Bool} {m : EM} {own : List Nat} {ρ : Env1} {v : Val} {l : List Val} {f : Val → Bool} {g : Val → Ky} {h : Val → Val} (hm : m ρ G = .ok v G) (hv : v = .tup l ∨ v = .fro l) (hl : l.length ≤ 1000000)
    (k : ∀ v ∈ l, ∃ ρ2 u, ptSet G p v (wipe1 ρ own) = some ρ2 ∧ tt ρ2 G = .ok (f v) G ∧ (f v = true → tk ρ2 G = .ok u G ∧ keyOf u = some (g v) ∧ tv ρ2 G = .ok (h v) G)) : eDc z m p tt tk tv own ρ G = mkD z ((l.filter f).foldl (fun a v => putKy a (g v) (h v)) []) G := by
  unfold eDc
  rw [hm]
  rcases hv with rfl | rfl <;> (simp only [bind_ok]; rw [dcF_pure k (by simpa using hl)]; rfl)
theorem eDcD_of {z : Bool} {i : Nat} {own : List Nat} {ρ : Env1} {d : List (Ky × Val)} {f : Val → Bool} {g : Val → Ky} {h : Val → Val} (hi : ρ[i]? = some (some (.frd d))) (hl : d.length ≤ 1000000)
    (k : ∀ v ∈ keysD d, ∃ ρ2 u, ptSet G p v (wipe1 ρ own) = some ρ2 ∧ tt ρ2 G = .ok (f v) G ∧ (f v = true → tk ρ2 G = .ok u G ∧ keyOf u = some (g v) ∧ tv ρ2 G = .ok (h v) G)) : eDcD z i p tt tk tv own ρ G = mkD z (((keysD d).filter f).foldl (fun a v => putKy a (g v) (h v)) []) G := by
  unfold eDcD onD
  rw [hi]
  simp only
  rw [dcF_pure k (by simpa [keysD] using hl)]
  rfl
end
end R1

/-! R3b: comprehensions and walks over lists of known things. -/
namespace R1
open PySem
section
variable {α : Type} {p : Pt} {tt : TM} {te tk tv : EM} {ρw : Env1} {G : Store} {enc : α → Val}
theorem lcF_map {f : α → Bool} {g : α → Val} : ∀ {xs : List α}, (∀ a ∈ xs, ∃ ρ2, ptSet G p (enc a) ρw = some ρ2 ∧ tt ρ2 G = .ok (f a) G ∧ (f a = true → te ρ2 G = .ok (g a) G)) → lcF p tt te ρw (xs.map enc) G = .ok ((xs.filter f).map g) G
  | [], _ => rfl
  | a :: xs, h => by
    obtain ⟨ρ2, e1, e2, e3⟩ := h a (List.mem_cons_self ..)
    have ih := lcF_map fun w hw => h w (List.mem_cons_of_mem _ hw)
    rw [List.map_cons]
    unfold lcF lcFT
    rw [e1]
    simp only [e2, bind_ok]
    by_cases hf : f a = true
    · rw [if_pos hf, e3 hf]
      simp [ih, hf]
    · rw [if_neg hf, ih]
      simp [hf]
theorem eLcF_map (xs : List α) (f : α → Bool) (g : α → Val) {z : Bool} {m : EM} {own : List Nat} {ρ : Env1} {v : Val} (hm : m ρ G = .ok v G) (hv : v = .tup (xs.map enc) ∨ v = .fro (xs.map enc)) (hl : xs.length ≤ 1000000)
    (h : ∀ a ∈ xs, ∃ ρ2, ptSet G p (enc a) (wipe1 ρ own) = some ρ2 ∧ tt ρ2 G = .ok (f a) G ∧ (f a = true → te ρ2 G = .ok (g a) G)) : eLcF z m p tt te own ρ G = mkL z ((xs.filter f).map g) G := by
  have hl2 : (xs.map enc).length ≤ sizeLine := by rw [List.length_map]; exact small_line hl
  unfold eLcF
  rw [hm]
  rcases hv with rfl | rfl <;> (simp only [bind_ok]; rw [if_pos hl2, lcF_map h]; rfl)
/-- without a test -/
theorem eLcF_map1 (xs : List α) (g : α → Val) {z : Bool} {m : EM} {own : List Nat} {ρ : Env1} {v : Val} (hm : m ρ G = .ok v G) (hv : v = .tup (xs.map enc) ∨ v = .fro (xs.map enc)) (hl : xs.length ≤ 1000000)
    (h : ∀ a ∈ xs, ∃ ρ2, ptSet G p (enc a) (wipe1 ρ own) = some ρ2 ∧ te ρ2 G = .ok (g a) G) : eLcF z m p tTrue te own ρ G = mkL z (xs.map g) G := by
  rw [eLcF_map xs (fun _ => true) g hm hv hl fun a ha => ?_]
  · rw [List.filter_eq_self.mpr fun _ _ => rfl]
  · obtain ⟨ρ2, e1, e2⟩ := h a ha
    exact ⟨ρ2, e1, rfl, fun _ => e2⟩
theorem lcF_rng {f : Int → Bool} {g : Int → Val} {lo : Int} {m : Nat} (h : ∀ k : Nat, k < m → ∃ ρ2, ptSet G p (.int (lo + k)) ρw = some ρ2 ∧ tt ρ2 G = .ok (f (lo + k)) G ∧ (f (lo + k) = true → te ρ2 G = .ok (g (lo + k)) G)) :
    lcF p tt te ρw (rangeL lo m) G = .ok ((((List.range m).map fun (k : Nat) => lo + (k : Int)).filter f).map g) G := by
  have e : rangeL lo m = ((List.range m).map fun (k : Nat) => lo + (k : Int)).map Val.int := by
    unfold rangeL
    rw [List.map_map]
    rfl
  rw [e, lcF_map (enc := Val.int) (f := f) (g := g)]
  intro a ha
  obtain ⟨k, hk, rfl⟩ := List.mem_map.mp ha
  exact h k (List.mem_range.mp hk)
theorem dcF_map {f : α → Bool} {g : α → Ky} {h : α → Val} : ∀ {xs : List α} {acc : List (Ky × Val)}, (∀ a ∈ xs, ∃ ρ2 u, ptSet G p (enc a) ρw = some ρ2 ∧ tt ρ2 G = .ok (f a) G ∧ (f a = true → tk ρ2 G = .ok u G ∧ keyOf u = some (g a) ∧ tv ρ2 G = .ok (h a) G)) → acc.length + xs.length ≤ 1000000 →
    dcF p tt tk tv ρw (xs.map enc) acc G = .ok ((xs.filter f).foldl (fun c a => putKy c (g a) (h a)) acc) G
  | [], acc, _, _ => rfl
  | a :: xs, acc, k, hl => by
    simp only [List.length_cons] at hl
    obtain ⟨ρ2, u, e1, e2, e3⟩ := k a (List.mem_cons_self ..)
    have k2 := fun w hw => k w (List.mem_cons_of_mem a hw)
    rw [List.map_cons]
    unfold dcF dcT
    rw [e1]
    simp only [e2, bind_ok]
    by_cases hf : f a = true
    · obtain ⟨e4, e5, e6⟩ := e3 hf
      have hp : (putKy acc (g a) (h a)).length ≤ acc.length + 1 := by
        unfold putKy
        split <;> simp
      rw [if_pos hf, e4]
      simp only [bind_ok, e6, e5]
      rw [if_pos (small_lt (by omega)), dcF_map k2 (by omega)]
      simp [hf]
    · rw [if_neg hf, dcF_map k2 (by omega)]
      simp [hf]
theorem eDc_map (xs : List α) (f : α → Bool) (g : α → Ky) (h : α → Val) {z : Bool} {m : EM} {own : List Nat} {ρ : Env1} {v : Val} (hm : m ρ G = .ok v G) (hv : v = .tup (xs.map enc) ∨ v = .fro (xs.map enc)) (hl : xs.length ≤ 1000000)
    (k : ∀ a ∈ xs, ∃ ρ2 u, ptSet G p (enc a) (wipe1 ρ own) = some ρ2 ∧ tt ρ2 G = .ok (f a) G ∧ (f a = true → tk ρ2 G = .ok u G ∧ keyOf u = some (g a) ∧ tv ρ2 G = .ok (h a) G)) : eDc z m p tt tk tv own ρ G = mkD z ((xs.filter f).foldl (fun c a => putKy c (g a) (h a)) []) G := by
  unfold eDc
  rw [hm]
  rcases hv with rfl | rfl <;> (simp only [bind_ok]; rw [dcF_map k (by simpa using hl)]; rfl)
theorem eDcD_map (xs : List α) (f : α → Bool) (g : α → Ky) (h : α → Val) {z : Bool} {i : Nat} {own : List Nat} {ρ : Env1} {d : List (Ky × Val)} (hi : ρ[i]? = some (some (.frd d))) (hd : keysD d = xs.map enc) (hl : xs.length ≤ 1000000)
    (k : ∀ a ∈ xs, ∃ ρ2 u, ptSet G p (enc a) (wipe1 ρ own) = some ρ2 ∧ tt ρ2 G = .ok (f a) G ∧ (f a = true → tk ρ2 G = .ok u G ∧ keyOf u = some (g a) ∧ tv ρ2 G = .ok (h a) G)) : eDcD z i p tt tk tv own ρ G = mkD z ((xs.filter f).foldl (fun c a => putKy c (g a) (h a)) []) G := by
  unfold eDcD onD
  rw [hi]
  simp only
  rw [hd, dcF_map k (by simpa using hl)]
  rfl
/-- a walk that goes to its end: F what a turn makes of the state -/
theorem for_next {σ : Type} (st : σ → Env1 → Store → Prop) (F : σ → α → σ) {b : SM} : ∀ {xs : List α} {s : σ} {ρ : Env1} {G : Store}, (∀ s a ρ G, a ∈ xs → st s ρ G → ∃ ρ1, ptSet G p (enc a) ρ = some ρ1 ∧ ((∃ ρ' G', b ρ1 G = .next ρ' G' ∧ st (F s a) ρ' G') ∨ ∃ ρ' G', b ρ1 G = .cont ρ' G' ∧ st (F s a) ρ' G')) → st s ρ G →
    ∃ ρ' G', forIt p b (xs.map enc) ρ G = .next ρ' G' ∧ st (xs.foldl F s) ρ' G'
  | [], s, ρ, G, _, h => ⟨ρ, G, rfl, h⟩
  | a :: xs, s, ρ, G, k, h => by
    obtain ⟨ρ1, e1, e2⟩ := k s a ρ G (List.mem_cons_self ..) h
    have k2 := fun s w ρ G hw => k s w ρ G (List.mem_cons_of_mem a hw)
    rw [List.map_cons, v_forCons, e1]
    dsimp only
    rcases e2 with ⟨ρ', G', e2, h2⟩ | ⟨ρ', G', e2, h2⟩ <;> (rw [e2]; exact for_next st F k2 h2)
end
end R1
namespace R1
open PySem
section
variable {G J : Store} {i : Nat} {d : List (Ky × Val)} {k : Int} {w : Val}
theorem dic_obj (h : G[i]? = some (.dic d)) : dicOf G (.obj i) = some d := by
  unfold dicOf
  dsimp only
  rw [h]
theorem fIx_dobj (h : G[i]? = some (.dic d)) (e : lookK d (.inl k) = some w) : fIx (.obj i) (.int k) G = .ok w G := by
  refine fIx_dic (d := d) (dic_obj h) ?_ rfl e
  unfold itemsOf
  dsimp only
  rw [h]
theorem isDic_obj (h : G[i]? = some (.dic d)) : isDic G (.obj i) = some (i, d) := by
  unfold isDic
  dsimp only
  rw [h]
theorem putA_dic (h : G[i]? = some (.dic d)) (hl : d.length ≤ 100000) : putA (.obj i) (.int k) w G = some (G.set i (.dic (putKy d (.inl k) w))) := by
  unfold putA
  rw [isDic_obj h]
  dsimp only [keyOf]
  rw [if_pos (small_lt (by omega))]
/-- the newest object is a dict -/
theorem fIx_new (e : lookK d (.inl k) = some w) : fIx (.obj G.length) (.int k) (G ++ [.dic d]) = .ok w (G ++ [.dic d]) := fIx_dobj (d := d) (by simp) e
theorem putA_new (hl : d.length ≤ 100000) : putA (.obj G.length) (.int k) w (G ++ [.dic d]) = some (G ++ [.dic (putKy d (.inl k) w)]) := by
  rw [putA_dic (d := d) (by simp) hl]
  simp
end
end R1
namespace R1
open PySem
/-! ### slices -/
theorem cut_take {l : List Val} {n : Nat} : cutL l none (some (n : Int)) = l.take n := by
  unfold cutL HT.sIx
  have h1 : ¬ ((n : Int) < 0) := by omega
  simp only [if_neg h1, Int.toNat_natCast, List.drop_zero, Nat.sub_zero]
  by_cases h : n ≤ l.length
  · rw [Nat.min_eq_left h]
  · rw [Nat.min_eq_right (by omega), List.take_length, List.take_of_length_le (by omega)]
theorem cut_drop {l : List Val} {n : Nat} : cutL l (some (n : Int)) none = l.drop n := by
  unfold cutL HT.sIx
  have h1 : ¬ ((n : Int) < 0) := by omega
  simp only [if_neg h1, Int.toNat_natCast]
  by_cases h : n ≤ l.length
  · rw [Nat.min_eq_left h, List.take_of_length_le (by simp)]
  · rw [Nat.min_eq_right (by omega), List.drop_of_length_le (Nat.le_refl _), List.drop_of_length_le (by omega)]
    simp
theorem fSl_take {z : Bool} {l : List Val} {n : Nat} {G : Store} : fSl z (.fro l) none (some (n : Int)) G = mkL z (l.take n) G := by
  unfold fSl
  simp only [lst_fro, cut_take]
theorem fSl_drop {z : Bool} {l : List Val} {n : Nat} {G : Store} : fSl z (.fro l) (some (n : Int)) none G = mkL z (l.drop n) G := by
  unfold fSl
  simp only [lst_fro, cut_drop]
theorem fSl_takeT {z : Bool} {l : List Val} {n : Nat} {G : Store} : fSl z (.tup l) none (some (n : Int)) G = .ok (.tup (l.take n)) G := by
  unfold fSl
  simp only [cut_take]
theorem fSl_dropT {z : Bool} {l : List Val} {n : Nat} {G : Store} : fSl z (.tup l) (some (n : Int)) none G = .ok (.tup (l.drop n)) G := by
  unfold fSl
  simp only [cut_drop]
end R1

/-! R3c: dicts with int keys as lists of pairs; pairs of ints, sorted. -/
namespace R1
open PySem
section
variable {β γ : Type}
/-- the value at a key -/
def lookA (l : List (Int × β)) (k : Int) : Option β := (l.find? fun q => decide (q.1 = k)).map (·.2)
def putL (l : List (Int × β)) (k : Int) (v : β) : List (Int × β) := if (l.any fun q => decide (q.1 = k)) = true then l.map (fun q => if q.1 = k then (q.1, v) else q) else l ++ [(k, v)]
def dropL (l : List (Int × β)) (k : Int) : List (Int × β) := l.filter fun q => decide (q.1 ≠ k)
def kvE (e : β → Val) (l : List (Int × β)) : List (Ky × Val) := l.map fun q => (.inl q.1, e q.2)
abbrev Keys (l : List (Int × β)) : List Int := l.map (·.1)
@[simp] theorem lookA_nil {k : Int} : lookA ([] : List (Int × β)) k = none := (rfl)
theorem lookA_cons {q : Int × β} {l : List (Int × β)} {k : Int} : lookA (q :: l) k = if q.1 = k then some q.2 else lookA l k := by
  unfold lookA
  rw [List.find?_cons]
  by_cases h : q.1 = k <;> simp [h]
theorem lookA_app {l m : List (Int × β)} {k : Int} : lookA (l ++ m) k = (lookA l k).or (lookA m k) := by
  induction l with
  | nil => simp
  | cons q l ih =>
    rw [List.cons_append, lookA_cons, lookA_cons, ih]
    by_cases h : q.1 = k <;> simp [h]
theorem lookA_none {l : List (Int × β)} {k : Int} : lookA l k = none ↔ k ∉ Keys l := by
  induction l with
  | nil => simp
  | cons q l ih =>
    rw [lookA_cons]
    by_cases h : q.1 = k
    · simp [h]
    · have h' : ¬ k = q.1 := fun e => h e.symm
      simp [h, h', ih]
theorem lookA_some {l : List (Int × β)} {k : Int} {v : β} (hn : (Keys l).Nodup) : lookA l k = some v ↔ (k, v) ∈ l := by
  induction l with
  | nil => simp
  | cons q l ih =>
    obtain ⟨h1, h2⟩ := List.nodup_cons.mp hn
    rw [lookA_cons]
    obtain ⟨a, b⟩ := q
    by_cases h : a = k
    · subst h
      simp only [if_pos, List.mem_cons, Prod.mk.injEq, true_and]
      constructor
      · intro e
        exact .inl (Option.some.inj e).symm
      · rintro (e | e)
        · rw [e]
        · exact absurd (List.mem_map.mpr ⟨(a, v), e, rfl⟩) h1
    · have h' : ¬ k = a := fun e => h e.symm
      simp [h, h', ih h2]
theorem lookA_perm {l m : List (Int × β)} (hn : (Keys l).Nodup) (hp : l.Perm m) (k : Int) : lookA l k = lookA m k := by
  have hm : (Keys m).Nodup := (hp.map _).nodup_iff.mp hn
  cases e : lookA m k with
  | none =>
    rw [lookA_none] at e ⊢
    exact fun h => e (((hp.map _).mem_iff).mp h)
  | some v => exact (lookA_some hn).mpr (hp.mem_iff.mpr ((lookA_some hm).mp e))
theorem any_key {l : List (Int × β)} {k : Int} : ((l.any fun q => decide (q.1 = k)) = true) ↔ k ∈ Keys l := by
  rw [List.any_eq_true]
  constructor
  · rintro ⟨q, h1, h2⟩
    exact List.mem_map.mpr ⟨q, h1, of_decide_eq_true h2⟩
  · intro h
    obtain ⟨q, h1, h2⟩ := List.mem_map.mp h
    exact ⟨q, h1, decide_eq_true h2⟩
theorem keys_putL {l : List (Int × β)} {k : Int} {v : β} : Keys (putL l k v) = if k ∈ Keys l then Keys l else Keys l ++ [k] := by
  unfold putL
  by_cases h : k ∈ Keys l
  · rw [if_pos (any_key.mpr h), if_pos h]
    unfold Keys
    rw [List.map_map]
    congr 1
    funext q
    by_cases e : q.1 = k <;> simp [e]
  · rw [if_neg (fun q => h (any_key.mp q)), if_neg h]
    simp
theorem nodup_putL {l : List (Int × β)} {k : Int} {v : β} (hn : (Keys l).Nodup) : (Keys (putL l k v)).Nodup := by
  rw [keys_putL]
  by_cases h : k ∈ Keys l
  · rw [if_pos h]
    exact hn
  · rw [if_neg h]
    exact List.nodup_append.mpr ⟨hn, by simp, fun a ha b hb e => h (by rw [List.mem_singleton.mp hb] at e; rw [← e]; exact ha)⟩
theorem lookA_map_put {l : List (Int × β)} {k k' : Int} {v : β} : lookA (l.map fun q => if q.1 = k then (q.1, v) else q) k' = if k' = k then (lookA l k).map (fun _ => v) else lookA l k' := by
  induction l with
  | nil => simp
  | cons q l ih =>
    rw [List.map_cons, lookA_cons, lookA_cons, lookA_cons, ih]
    by_cases h : q.1 = k
    · by_cases h' : k' = k
      · simp [h, h']
      · have h2 : ¬ k = k' := fun e => h' e.symm
        simp [h, h', h2]
    · by_cases h' : k' = k
      · subst h'
        simp [h]
      · by_cases h3 : q.1 = k'
        · simp [h, h', h3]
        · simp [h, h', h3]
theorem lookA_putL {l : List (Int × β)} {k k' : Int} {v : β} : lookA (putL l k v) k' = if k' = k then some v else lookA l k' := by
  unfold putL
  by_cases h : k ∈ Keys l
  · rw [if_pos (any_key.mpr h), lookA_map_put]
    by_cases h' : k' = k
    · rw [if_pos h', if_pos h']
      cases e : lookA l k with
      | none => exact absurd h (lookA_none.mp e)
      | some w => rfl
    · rw [if_neg h', if_neg h']
  · rw [if_neg (fun q => h (any_key.mp q)), lookA_app, lookA_cons]
    by_cases h' : k' = k
    · subst h'
      rw [lookA_none.mpr h]
      simp
    · have h2 : ¬ k = k' := fun e => h' e.symm
      rw [if_neg h', if_neg h2]
      simp
theorem length_putL {l : List (Int × β)} {k : Int} {v : β} : (putL l k v).length ≤ l.length + 1 := by
  unfold putL
  split <;> simp
theorem lookA_dropL {l : List (Int × β)} {k k' : Int} : lookA (dropL l k) k' = if k' = k then none else lookA l k' := by
  unfold dropL
  induction l with
  | nil => simp
  | cons q l ih =>
    by_cases h : q.1 = k
    · rw [List.filter_cons_of_neg (by simp [h]), ih, lookA_cons]
      by_cases h' : k' = k
      · simp [h']
      · have h2 : ¬ k = k' := fun e => h' e.symm
        simp [h, h', h2]
    · rw [List.filter_cons_of_pos (by simp [h]), lookA_cons, lookA_cons, ih]
      by_cases h' : k' = k
      · subst h'
        simp [h]
      · by_cases h3 : q.1 = k' <;> simp [h', h3]
theorem nodup_filter {l : List (Int × β)} {f : Int × β → Bool} (hn : (Keys l).Nodup) : (Keys (l.filter f)).Nodup := hn.sublist ((List.filter_sublist (p := f)).map _)
theorem lookA_filter {l : List (Int × β)} (f : Int → Bool) {k : Int} : lookA (l.filter fun q => f q.1) k = if f k = true then lookA l k else none := by
  induction l with
  | nil => simp
  | cons q l ih =>
    by_cases h : f q.1 = true
    · rw [List.filter_cons_of_pos (p := fun q : Int × β => f q.1) h, lookA_cons, lookA_cons, ih]
      by_cases h' : q.1 = k
      · subst h'
        simp [h]
      · simp [h']
    · rw [List.filter_cons_of_neg (p := fun q : Int × β => f q.1) h, ih, lookA_cons]
      by_cases h' : q.1 = k
      · subst h'
        simp [h]
      · simp [h']
/-! as the mirror has them -/
variable {e : β → Val}
theorem look_kvE {l : List (Int × β)} {k : Int} : lookK (kvE e l) (.inl k) = (lookA l k).map e := by
  induction l with
  | nil => rfl
  | cons q l ih =>
    have ih' : Option.map (·.2) (List.find? (fun kv : Ky × Val => decide (kv.1 = .inl k)) (kvE e l)) = (lookA l k).map e := ih
    show lookK ((.inl q.1, e q.2) :: kvE e l) (.inl k) = _
    rw [lookA_cons]
    unfold lookK
    rw [List.find?_cons]
    by_cases h : q.1 = k
    · simp [h]
    · have h2 : ¬ ((Sum.inl q.1 : Ky) = .inl k) := fun z => h (Sum.inl.inj z)
      simp only [h2, decide_false, if_neg h]
      exact ih'
theorem any_kvE {l : List (Int × β)} {k : Int} : ((kvE e l).any fun kv => decide (kv.1 = .inl k)) = l.any fun q => decide (q.1 = k) := by
  unfold kvE
  rw [List.any_map]
  congr 1
  funext q
  show decide ((Sum.inl q.1 : Ky) = .inl k) = _
  by_cases h : q.1 = k
  · simp [h]
  · have h2 : ¬ ((Sum.inl q.1 : Ky) = .inl k) := fun z => h (Sum.inl.inj z)
    simp [h, h2]
theorem put_kvE {l : List (Int × β)} {k : Int} {v : β} : putKy (kvE e l) (.inl k) (e v) = kvE e (putL l k v) := by
  unfold putKy putL
  rw [any_kvE]
  by_cases h : (l.any fun q => decide (q.1 = k)) = true
  · rw [if_pos h, if_pos h]
    unfold kvE
    rw [List.map_map, List.map_map]
    congr 1
    funext q
    show (if (Sum.inl q.1 : Ky) = .inl k then (_, _) else _) = _
    by_cases h : q.1 = k
    · rw [if_pos (by rw [h])]
      simp [h]
    · rw [if_neg fun z => h (Sum.inl.inj z)]
      simp [h]
  · rw [if_neg h, if_neg h]
    unfold kvE
    simp
theorem drop_kvE {l : List (Int × β)} {k : Int} : dropKy (kvE e l) (.inl k) = kvE e (dropL l k) := by
  unfold dropKy dropL kvE
  rw [List.filter_map]
  congr 1
  congr 1
  funext q
  show decide ((Sum.inl q.1 : Ky) ≠ .inl k) = _
  by_cases h : q.1 = k
  · simp [h]
  · have h2 : ¬ ((Sum.inl q.1 : Ky) = .inl k) := fun z => h (Sum.inl.inj z)
    simp [h, h2]
@[simp] theorem length_kvE {l : List (Int × β)} : (kvE e l).length = l.length := by simp [kvE]
@[simp] theorem keysD_kvE {l : List (Int × β)} : keysD (kvE e l) = (Keys l).map Val.int := by
  unfold keysD kvE Keys
  rw [List.map_map, List.map_map]
  rfl
theorem datD_kvE {l : List (Int × β)} (h : ∀ q ∈ l, dat (e q.2) = true) : datD (kvE e l) = true := by
  rw [datD_iff]
  intro v hv
  obtain ⟨q, hq, rfl⟩ := List.mem_map.mp hv
  exact h q hq
end
/-! ### pairs of ints -/
abbrev Prs := List (Int × Int)
def pv (p : Int × Int) : Val := .tup [.int p.1, .int p.2]
def optV : Option Int → Val
  | none => .non
  | some i => .int i
@[simp] theorem dat_pvs (l : Prs) : datL1 (l.map pv) = true := by
  rw [datL_iff]
  intro v hv
  obtain ⟨p, _, rfl⟩ := List.mem_map.mp hv
  rfl
@[simp] theorem dat_optV (o : Option Int) : dat (optV o) = true := by cases o <;> (exact (rfl))
@[simp] theorem dat_ints (l : List Int) : datL1 (l.map Val.int) = true := by
  rw [datL_iff]
  intro v hv
  obtain ⟨p, _, rfl⟩ := List.mem_map.mp hv
  rfl
def leP (a b : Int × Int) : Bool := leT [a.1, a.2] [b.1, b.2]
def sortP (l : Prs) : Prs := l.mergeSort leP
theorem leP_iff {a b : Int × Int} : leP a b = true ↔ a.1 < b.1 ∨ (a.1 = b.1 ∧ a.2 ≤ b.2) := by
  unfold leP leT
  rw [decide_eq_true_iff]
  constructor
  · intro h
    by_cases h1 : a.1 < b.1
    · exact .inl h1
    · by_cases h2 : a.1 = b.1
      · refine .inr ⟨h2, ?_⟩
        rw [h2] at h
        have h3 := List.cons_le_cons_iff.mp h
        rcases h3 with h3 | ⟨_, h3⟩
        · omega
        · rcases List.cons_le_cons_iff.mp h3 with h4 | ⟨h4, _⟩
          · omega
          · omega
      · rcases List.cons_le_cons_iff.mp h with h3 | ⟨h3, _⟩
        · omega
        · omega
  · rintro (h | ⟨h1, h2⟩)
    · exact List.cons_le_cons_iff.mpr (.inl h)
    · refine List.cons_le_cons_iff.mpr (.inr ⟨h1, List.cons_le_cons_iff.mpr ?_⟩)
      by_cases h3 : a.2 = b.2
      · exact .inr ⟨h3, by simp⟩
      · exact .inl (by omega)
theorem sortP_perm (l : Prs) : (sortP l).Perm l := List.mergeSort_perm l _
theorem sortP_sorted (l : Prs) : (sortP l).Pairwise fun a b => leP a b = true := List.pairwise_mergeSort (le := leP) (fun a b c h1 h2 => by rw [leP_iff] at *; omega) (fun a b => by
  have : leP a b = true ∨ leP b a = true := by
    rw [leP_iff, leP_iff]
    omega
  rcases this with h | h <;> simp [h]) l
theorem sortP_uniq {l m : Prs} (hp : m.Perm l) (hs : m.Pairwise fun a b => leP a b = true) : m = sortP l :=
  (hp.trans (sortP_perm l).symm).eq_of_pairwise (fun a b _ _ h1 h2 => by
    rw [leP_iff] at h1 h2
    have h3 : a.1 = b.1 := by omega
    have h4 : a.2 = b.2 := by omega
    exact Prod.ext h3 h4) hs (sortP_sorted l)
theorem sortP_congr {l m : Prs} (h : l.Perm m) : sortP l = sortP m := sortP_uniq ((sortP_perm l).trans h) (sortP_sorted l)
@[simp] theorem sortP_len (l : Prs) : (sortP l).length = l.length := (sortP_perm l).length_eq
theorem sortT_pairs (l : Prs) : sortT (l.map fun p => [p.1, p.2]) = (sortP l).map fun p => [p.1, p.2] := by
  unfold sortT sortP
  exact (List.map_mergeSort (r := leP) (s := leT) (f := fun p : Int × Int => [p.1, p.2]) (fun _ _ _ _ => rfl)).symm
theorem bSortX_pairs {G : Store} {v : Val} {l : Prs} (h : lstOf G v = some (l.map pv)) (hl : l.length ≤ 1000000) (h0 : l ≠ []) : bSortX [v] G = .ok (.fro ((sortP l).map pv)) G := by
  have e : ∀ m : Prs, m.map pv = (m.map fun p => [p.1, p.2]).map tupI := fun m => by
    rw [List.map_map]
    rfl
  rw [e] at h
  rw [bSortX_tups 1 h (fun x hx => by obtain ⟨p, _, rfl⟩ := List.mem_map.mp hx; rfl) (by simpa using hl) (by simpa using h0), sortT_pairs, ← e]
end R1

/-! R3d: lists of the store. -/
namespace R1
open PySem
section
variable {G : Store} {i k : Nat} {l : List Val} {v w : Val} {z : Bool}
theorem lst_obj (h : G[i]? = some (.lst l)) : lstOf G (.obj i) = some l := by
  unfold lstOf
  simp only [h]
theorem items_obj (h : G[i]? = some (.lst l)) : itemsOf G (.obj i) = some l := by
  unfold itemsOf
  simp only [h]
theorem fIx_lobj (h : G[i]? = some (.lst l)) (e : l[k]? = some w) : fIx (.obj i) (.int (k : Int)) G = .ok w G := fIx_at (items_obj h) e
theorem ixN_nat (h : k < l.length) : L2.ixN l.length (k : Int) = some k := by
  unfold L2.ixN
  simp
  omega
theorem setLst_obj {f : List Val → Option (List Val)} {m : List Val} (h : G[i]? = some (.lst l)) (e : f l = some m) : setLst (.obj i) f G = some (G.set i (.lst m)) := by
  unfold setLst
  simp only [h, e]
  rfl
theorem setIx_lst (h : G[i]? = some (.lst l)) (hk : k < l.length) : setIx (.obj i) (.int (k : Int)) w G = some (G.set i (.lst (l.set k w))) := by
  unfold setIx
  exact setLst_obj h (by rw [ixN_nat hk]; rfl)
theorem putA_lst (h : G[i]? = some (.lst l)) (hk : k < l.length) : putA (.obj i) (.int (k : Int)) w G = some (G.set i (.lst (l.set k w))) := by
  unfold putA
  have e : isDic G (.obj i) = none := by
    unfold isDic
    simp only [h]
  rw [e]
  exact setIx_lst h hk
theorem bLen_obj (h : G[i]? = some (.lst l)) : bLen [.obj i] G = .ok (.int l.length) G := by
  unfold bLen
  simp only [items_obj h]
theorem fIxL_lobj (h : G[i]? = some (.lst l)) (e : l[k]? = some w) : fIxL (.obj i) (.int (k : Int)) G = .ok w G := by
  unfold fIxL
  simp only [h, atL_nat, e]
end
theorem rng1_nat {n : Nat} (h : n ≤ 1000000) : rng1 [.int (n : Int)] = some ((List.range' 0 n).map fun (k : Nat) => Val.int (k : Int)) := by
  unfold rng1
  have : inLine (n : Int) = true := by
    unfold inLine
    simp
    omega
  simp only [this, if_true]
  unfold rangeL
  simp [List.range_eq_range']
theorem asBls_true {α : Type} : ∀ l : List α, asBls (l.map fun _ => Val.bl true) = some (l.map fun _ => true)
  | [] => rfl
  | a :: l => by
    show (asBls (l.map fun _ => Val.bl true)).map (true :: ·) = _
    rw [asBls_true l]
    rfl
theorem all_true {α : Type} {G : Store} (l : List α) : bAllL [.fro (l.map fun _ => Val.bl true)] G = .ok (.bl true) G := by
  unfold bAllL
  have e : (itemsL G (.fro (l.map fun _ => Val.bl true))).bind asBls = some (l.map fun _ => true) := asBls_true l
  simp only [e]
  congr 2
  rw [List.all_eq_true]
  intro b hb
  obtain ⟨_, _, rfl⟩ := List.mem_map.mp hb
  rfl
theorem count_one {k : Int} : ∀ {l : List Int}, l.Nodup → k ∈ l → List.count k l = 1
  | [], _, h => by cases h
  | x :: l, n, h => by
    obtain ⟨n1, n2⟩ := List.nodup_cons.mp n
    rw [List.count_cons]
    by_cases e : x = k
    · subst e
      rw [List.count_eq_zero.mpr n1]
      simp
    · have hm : k ∈ l := (List.mem_cons.mp h).resolve_left fun z => e z.symm
      rw [count_one n2 hm]
      simp [e]
@[simp] theorem fIsNot_b {a b : Bool} {G : Store} : fIsNot (.bl a) (.bl b) G = .ok (.bl (!(a == b))) G := (rfl)
@[simp] theorem fIs_b {a b : Bool} {G : Store} : fIs (.bl a) (.bl b) G = .ok (.bl (a == b)) G := (rfl)
@[simp] theorem e_kin {neg : Bool} {l : List (Nat × Val)} {N : Nat} {m : EM} {ρ : Env1} {G : Store} : eKin neg l N m ρ G = (m ρ G).bind fun v G1 => match v with
  | .str k => if k < N then .ok (.bl (neg != (l.lookup k).isSome)) G1 else .bad
  | _ => .bad := (rfl)
@[simp] theorem e_kix {l : List (Nat × Val)} {N : Nat} {m : EM} {ρ : Env1} {G : Store} : eKix l N m ρ G = (m ρ G).bind fun v G1 => match v with
  | .str k => if k < N then (match l.lookup k with
    | some v => .ok v G1
    | none => .bad) else .bad
  | _ => .bad := (rfl)
@[simp] theorem e_kget {l : List (Nat × Val)} {N : Nat} {m : EM} {ρ : Env1} {G : Store} : eKget l N m ρ G = (m ρ G).bind fun v G1 => match v with
  | .str k => if k < N then .ok ((l.lookup k).getD .non) G1 else .bad
  | _ => .bad := (rfl)
end R1

/-! R3e: instances. -/
namespace R1
open PySem
def fldV (pl : List (Nat × Nat)) (v : Val) (G : Store) : Res Val := match v with
  | .obj i => (match G[i]? with
    | some (.ins c vs) => (match (pl.lookup c).bind fun p => vs[p]? with
      | some w => .ok w G
      | none => .bad)
    | _ => .bad)
  | _ => .bad
def methV (tb : List (Nat × F1)) (dv : List Val) (k : AM) (ρ : Env1) (w : Val) (G : Store) : Res Val := match w with
  | .obj i => (match G[i]? with
    | some (.ins c _) => (match tb.lookup c with
      | some f => (k ρ G).bind fun vs G2 => f (w :: (vs ++ dv)) G2
      | none => .bad)
    | _ => .bad)
  | _ => .bad
def augV (c p : Nat) (w : Val) (m : EM) (ρ : Env1) (G : Store) : SR := match w with
  | .obj i => (match G[i]? with
    | some (.ins c' vs) => if c' = c then (match vs[p]? with
      | some v => (m ρ G).toS fun u G2 => (match addI v u with
        | some z => (match setFld c p w z G2 with
          | some G3 => .next ρ G3
          | none => .bad)
        | none => .bad)
      | none => .bad) else .bad
    | _ => .bad)
  | _ => .bad
section
variable {G : Store} {ρ : Env1} {i c : Nat} {vs : List Val} {v w : Val}
@[simp] theorem e_fld {m : EM} {pl : List (Nat × Nat)} : eFld m pl ρ G = (m ρ G).bind fun v G1 => fldV pl v G1 := (rfl)
@[simp] theorem e_meth {tb : List (Nat × F1)} {dv : List Val} {o : EM} {k : AM} : eMeth tb dv o k ρ G = (o ρ G).bind fun w G1 => methV tb dv k ρ w G1 := (rfl)
@[simp] theorem v_fldaug {c p : Nat} {o m : EM} : sFldAug1 c p o m ρ G = (o ρ G).toS fun w G1 => augV c p w m ρ G1 := (rfl)
theorem fldV_at {pl : List (Nat × Nat)} (h : G[i]? = some (.ins c vs)) (e : ((pl.lookup c).bind fun p => vs[p]?) = some w) : fldV pl (.obj i) G = .ok w G := by
  unfold fldV
  simp only [h, e]
theorem methV_at {tb : List (Nat × F1)} {f : F1} {dv : List Val} {k : AM} (h : G[i]? = some (.ins c vs)) (e : tb.lookup c = some f) : methV tb dv k ρ (.obj i) G = (k ρ G).bind fun vs G2 => f (.obj i :: (vs ++ dv)) G2 := by
  unfold methV
  simp only [h, e]
theorem methV_1 {f : F1} {dv : List Val} {k : AM} (h : G[i]? = some (.ins c vs)) : methV [(c, f)] dv k ρ (.obj i) G = (k ρ G).bind fun vs G2 => f (.obj i :: (vs ++ dv)) G2 := methV_at h (by simp [List.lookup])
theorem setFld_at {p : Nat} (h : G[i]? = some (.ins c vs)) (hp : p ≤ vs.length) : setFld c p (.obj i) v G = some (G.set i (.ins c (if p < vs.length then vs.set p v else vs ++ [v]))) := by
  unfold setFld
  simp only [h]
  rw [if_pos ⟨trivial, hp⟩]
theorem augV_at {p : Nat} {m : EM} {a b : Int} (h : G[i]? = some (.ins c vs)) (e : vs[p]? = some (.int a)) (hm : m ρ G = .ok (.int b) G) : augV c p (.obj i) m ρ G = .next ρ (G.set i (.ins c (vs.set p (.int (a + b))))) := by
  have hp : p < vs.length := (List.getElem?_eq_some_iff.mp e).1
  unfold augV
  simp only [h, e, if_true, hm, toS_ok, addI_ii]
  rw [setFld_at h (Nat.le_of_lt hp), if_pos hp]
end
/-! values without objects: what they are as data -/
def dataOf (v : Val) : Option PyData := toD [] dEq v
mutual
theorem toD_dat {G G' : Store} : ∀ (k : Nat) {v : Val}, dat v = true → toD G k v = toD G' k v
  | k, .non, _ => by cases k <;> rfl
  | k, .bl _, _ => by cases k <;> rfl
  | k, .int _, _ => by cases k <;> rfl
  | k, .str _, _ => by cases k <;> rfl
  | 0, .tup _, _ => rfl
  | 0, .fro _, _ => rfl
  | k, .frd _, _ => by cases k <;> rfl
  | k, .scr _, _ => by cases k <;> rfl
  | _, .obj i, h => by simp [dat, clo] at h
  | k + 1, .tup l, h => by
    show (optAll (toD G k) l).map PyData.tuple = (optAll (toD G' k) l).map PyData.tuple
    rw [toD_dats k (l := l) h]
  | k + 1, .fro l, h => by
    show (optAll (toD G k) l).map PyData.list = (optAll (toD G' k) l).map PyData.list
    rw [toD_dats k (l := l) h]
theorem toD_dats {G G' : Store} : ∀ (k : Nat) {l : List Val}, datL1 l = true → optAll (toD G k) l = optAll (toD G' k) l
  | k, [], _ => rfl
  | k, v :: l, h => by
    rw [datL_cons, Bool.and_eq_true_iff] at h
    unfold optAll
    rw [toD_dat k h.1, toD_dats k h.2]
end
theorem fNeA_dat {G : Store} {v u : Val} {d e : PyData} (hv : dat v = true) (hu : dat u = true) (h1 : dataOf v = some d) (h2 : dataOf u = some e) : fNeA v u G = .ok (.bl (!PyData.eqv d e)) G := by
  unfold fNeA orF fNe
  rw [toD_dat dEq hv (G' := []), toD_dat dEq hu (G' := [])]
  unfold dataOf at h1 h2
  simp only [h1, h2]
theorem fEqA_dat {G : Store} {v u : Val} {d e : PyData} (hv : dat v = true) (hu : dat u = true) (h1 : dataOf v = some d) (h2 : dataOf u = some e) : fEqA v u G = .ok (.bl (PyData.eqv d e)) G := by
  unfold fEqA orF fEq
  rw [toD_dat dEq hv (G' := []), toD_dat dEq hu (G' := [])]
  unfold dataOf at h1 h2
  simp only [h1, h2]
theorem fInA_dobj {G : Store} {neg : Bool} {d : List (Ky × Val)} {i : Nat} {k : Int} (h : G[i]? = some (.dic d)) : fInA neg (.int k) (.obj i) G = .ok (.bl (neg != (lookK d (.inl k)).isSome)) G := by
  unfold fInA orF fIn
  have e : itemsOf G (.obj i) = none := by
    unfold itemsOf
    dsimp only
    rw [h]
  rw [e]
  simp only [Option.bind]
  have e2 : toD G dEq (.int k) = some (.int k) := rfl
  rw [e2]
  unfold fDin
  rw [dic_obj h]
  rfl
@[simp] theorem fEqA_ii {a b : Int} {G : Store} : fEqA (.int a) (.int b) G = .ok (.bl (decide (a = b))) G := by
  unfold fEqA orF fEq toD
  simp only
  congr 2
@[simp] theorem fNeA_ii {a b : Int} {G : Store} : fNeA (.int a) (.int b) G = .ok (.bl (!decide (a = b))) G := by
  unfold fNeA orF fNe toD
  simp only
  congr 2
theorem eqv_str (a b : Nat) : PyData.eqv (.str (nm a)) (.str (nm b)) = decide (a = b) := by
  rw [← nm_eq]
  rfl
@[simp] theorem fEqA_ss {a b : Nat} {G : Store} : fEqA (.str a) (.str b) G = .ok (.bl (decide (a = b))) G := by
  unfold fEqA orF fEq toD
  simp only [eqv_str]
@[simp] theorem fNeA_ss {a b : Nat} {G : Store} : fNeA (.str a) (.str b) G = .ok (.bl (!decide (a = b))) G := by
  unfold fNeA orF fNe toD
  simp only [eqv_str]
end R1

/-! R3f: equality of values without objects. -/
namespace R1
open PySem
theorem eqvAll_cons {a b : PyData} {l m : List PyData} : PyData.eqvAll (a :: l) (b :: m) = (PyData.eqv a b && PyData.eqvAll l m) := by
  simp [PyData.eqvAll]
theorem eqvAll_nil : PyData.eqvAll [] [] = true := by simp [PyData.eqvAll]
theorem toD_self {G : Store} : ∀ (k : Nat) {v : Val} {d : PyData}, toD G k v = some d → PyData.eqv d d = true := by
  have ls : ∀ (k : Nat), (∀ {v : Val} {d : PyData}, toD G k v = some d → PyData.eqv d d = true) → ∀ {l : List Val} {r : List PyData}, optAll (toD G k) l = some r → PyData.eqvAll r r = true := by
    intro k ih l
    induction l with
    | nil =>
      intro r h
      unfold optAll at h
      cases h
      exact eqvAll_nil
    | cons v l il =>
      intro r h
      obtain ⟨b, s, h1, h2, rfl⟩ := optAll_cons h
      rw [eqvAll_cons, ih h1, il h2]
      rfl
  intro k
  induction k with
  | zero =>
    intro v d h
    cases v <;> first
      | (cases h; simp [PyData.eqv]; done)
      | (cases h; done)
  | succ k ih =>
    intro v d h
    cases v with
    | tup l =>
      cases e : optAll (toD G k) l with
      | none =>
        have h : (optAll (toD G k) l).map PyData.tuple = some d := h
        rw [e] at h
        cases h
      | some r =>
        have h : (optAll (toD G k) l).map PyData.tuple = some d := h
        rw [e] at h
        cases h
        simpa [PyData.eqv] using ls k (fun h => ih h) e
    | fro l =>
      cases e : optAll (toD G k) l with
      | none =>
        have h : (optAll (toD G k) l).map PyData.list = some d := h
        rw [e] at h
        cases h
      | some r =>
        have h : (optAll (toD G k) l).map PyData.list = some d := h
        rw [e] at h
        cases h
        simpa [PyData.eqv] using ls k (fun h => ih h) e
    | obj i =>
      unfold toD at h
      split at h
      · rename_i l _
        cases e : optAll (toD G k) l with
        | none =>
          rw [e] at h
          cases h
        | some r =>
          rw [e] at h
          cases h
          simpa [PyData.eqv] using ls k (fun h => ih h) e
      · cases h
    | _ => first
      | (cases h; simp [PyData.eqv]; done)
      | (cases h; done)
/-- the same value on both sides -/
theorem fNeA_self {G : Store} {v : Val} {d : PyData} (h : toD G dEq v = some d) : fNeA v v G = .ok (.bl false) G := by
  unfold fNeA orF fNe
  simp only [h, toD_self dEq h]
  rfl
theorem fEqA_self {G : Store} {v : Val} {d : PyData} (h : toD G dEq v = some d) : fEqA v v G = .ok (.bl true) G := by
  unfold fEqA orF fEq
  simp only [h, toD_self dEq h]
theorem optAll_of {α β : Type} {f : α → Option β} : ∀ {l : List α}, (∀ v ∈ l, ∃ d, f v = some d) → ∃ r, optAll f l = some r
  | [], _ => ⟨[], rfl⟩
  | v :: l, h => by
    obtain ⟨d, e⟩ := h v (List.mem_cons_self ..)
    obtain ⟨r, e2⟩ := optAll_of fun w hw => h w (List.mem_cons_of_mem _ hw)
    exact ⟨d :: r, by unfold optAll; rw [e, e2]⟩
theorem toD_fro {G : Store} {l : List Val} (h : ∀ v ∈ l, ∃ d, toD G 39 v = some d) : ∃ d, toD G dEq (.fro l) = some d := by
  obtain ⟨r, e⟩ := optAll_of h
  refine ⟨.list r, ?_⟩
  show (optAll (toD G 39) l).map PyData.list = _
  rw [e]
  rfl
theorem toD_tup {G : Store} {l : List Val} (h : ∀ v ∈ l, ∃ d, toD G 39 v = some d) : ∃ d, toD G dEq (.tup l) = some d := by
  obtain ⟨r, e⟩ := optAll_of h
  refine ⟨.tuple r, ?_⟩
  show (optAll (toD G 39) l).map PyData.tuple = _
  rw [e]
  rfl
noncomputable instance : DecidableEq Val := fun a b => Classical.propDecidable (a = b)
/-! values without truth values, at most so deep: equality is sameness -/
mutual
def pln : Nat → Val → Bool
  | _, .non => true
  | _, .int _ => true
  | _, .str _ => true
  | k + 1, .tup l => plnL k l
  | k + 1, .fro l => plnL k l
  | _, _ => false
def plnL : Nat → List Val → Bool
  | _, [] => true
  | k, v :: l => pln k v && plnL k l
end
theorem pln_toD {G : Store} : ∀ (k : Nat) {v : Val}, pln k v = true → ∃ d, toD G k v = some d := by
  intro k
  induction k with
  | zero =>
    intro v hv
    cases v <;> first | (cases hv; done) | exact ⟨_, rfl⟩
  | succ k ih =>
    intro v hv
    have ls : ∀ {l : List Val}, plnL k l = true → ∃ r, optAll (toD G k) l = some r := by
      intro l
      induction l with
      | nil => exact fun _ => ⟨[], rfl⟩
      | cons w l il =>
        intro h
        have h : (pln k w && plnL k l) = true := h
        rw [Bool.and_eq_true_iff] at h
        obtain ⟨r, er⟩ := il h.2
        obtain ⟨d, e1⟩ := ih h.1
        exact ⟨d :: r, by unfold optAll; rw [e1, er]⟩
    cases v with
    | tup l =>
      obtain ⟨r, e⟩ := ls (l := l) hv
      exact ⟨.tuple r, by show (optAll (toD G k) l).map _ = _; rw [e]; rfl⟩
    | fro l =>
      obtain ⟨r, e⟩ := ls (l := l) hv
      exact ⟨.list r, by show (optAll (toD G k) l).map _ = _; rw [e]; rfl⟩
    | _ => first | (cases hv; done) | exact ⟨_, rfl⟩
theorem plnL_toD {G : Store} {k : Nat} : ∀ {l : List Val}, plnL k l = true → ∃ r, optAll (toD G k) l = some r
  | [], _ => ⟨[], rfl⟩
  | w :: l, h => by
    have h : (pln k w && plnL k l) = true := h
    rw [Bool.and_eq_true_iff] at h
    obtain ⟨r, er⟩ := plnL_toD h.2
    obtain ⟨d, e1⟩ := pln_toD (G := G) k h.1
    exact ⟨d :: r, by unfold optAll; rw [e1, er]⟩
def EqvP (k : Nat) (G : Store) : Prop := ∀ {v u : Val} {d e : PyData}, pln k v = true → pln k u = true → toD G k v = some d → toD G k u = some e → PyData.eqv d e = decide (v = u)
theorem eqvL {G : Store} {k : Nat} (ih : EqvP k G) : ∀ {l m : List Val} {r s : List PyData}, plnL k l = true → plnL k m = true → optAll (toD G k) l = some r → optAll (toD G k) m = some s → PyData.eqvAll r s = decide (l = m)
  | [], [], r, s, _, _, h1, h2 => by
    cases h1
    cases h2
    simp [PyData.eqvAll]
  | [], u :: m, r, s, _, _, h1, h2 => by
    cases h1
    obtain ⟨_, _, _, _, rfl⟩ := optAll_cons h2
    simp [PyData.eqvAll]
  | v :: l, [], r, s, _, _, h1, h2 => by
    cases h2
    obtain ⟨_, _, _, _, rfl⟩ := optAll_cons h1
    simp [PyData.eqvAll]
  | v :: l, u :: m, r, s, hl, hm, h1, h2 => by
    have hl : (pln k v && plnL k l) = true := hl
    have hm : (pln k u && plnL k m) = true := hm
    rw [Bool.and_eq_true_iff] at hl hm
    obtain ⟨_, _, e1, e2, rfl⟩ := optAll_cons h1
    obtain ⟨_, _, f1, f2, rfl⟩ := optAll_cons h2
    rw [eqvAll_cons, ih hl.1 hm.1 e1 f1, eqvL ih hl.2 hm.2 e2 f2]
    by_cases h1 : v = u <;> by_cases h2 : l = m <;> simp [h1, h2]
theorem eqv_pln {G : Store} : ∀ (k : Nat), EqvP k G := by
  have tp : ∀ {k : Nat} {l : List Val} {d : PyData}, plnL k l = true → toD G (k + 1) (.tup l) = some d → ∃ r, optAll (toD G k) l = some r ∧ d = .tuple r := by
    intro k l d hl h
    obtain ⟨r, e⟩ := plnL_toD (G := G) hl
    have h : (optAll (toD G k) l).map PyData.tuple = some d := h
    rw [e] at h
    cases h
    exact ⟨r, e, rfl⟩
  have fp : ∀ {k : Nat} {l : List Val} {d : PyData}, plnL k l = true → toD G (k + 1) (.fro l) = some d → ∃ r, optAll (toD G k) l = some r ∧ d = .list r := by
    intro k l d hl h
    obtain ⟨r, e⟩ := plnL_toD (G := G) hl
    have h : (optAll (toD G k) l).map PyData.list = some d := h
    rw [e] at h
    cases h
    exact ⟨r, e, rfl⟩
  intro k
  induction k with
  | zero =>
    intro v u d e hv hu h1 h2
    cases v <;> first | (cases hv; done) | (cases h1; done) | skip
    all_goals (cases u <;> first | (cases hu; done) | (cases h2; done) | skip)
    all_goals (cases h1; cases h2)
    all_goals first
      | (simp [PyData.eqv]; done)
      | (rw [eqv_str]; simp; done) | (rw [Bool.eq_iff_iff]; simp [PyData.eqv]; done)
  | succ k ih =>
    intro v u d e hv hu h1 h2
    cases v <;> first | (cases hv; done) | skip
    all_goals (cases u <;> first | (cases hu; done) | skip)
    case tup.tup l m =>
      obtain ⟨r, e1, rfl⟩ := tp hv h1
      obtain ⟨s, e2, rfl⟩ := tp hu h2
      simpa [PyData.eqv] using eqvL ih hv hu e1 e2
    case fro.fro l m =>
      obtain ⟨r, e1, rfl⟩ := fp hv h1
      obtain ⟨s, e2, rfl⟩ := fp hu h2
      simpa [PyData.eqv] using eqvL ih hv hu e1 e2
    all_goals first
      | (cases h1; cases h2; first | (simp [PyData.eqv]; done) | (rw [eqv_str]; simp; done) | (rw [Bool.eq_iff_iff]; simp [PyData.eqv]; done); done)
      | (obtain ⟨r, e1, rfl⟩ := tp hv h1; first | (obtain ⟨s, e2, rfl⟩ := fp hu h2; simp [PyData.eqv]; done) | (cases h2; simp [PyData.eqv]; done); done)
      | (obtain ⟨r, e1, rfl⟩ := fp hv h1; first | (obtain ⟨s, e2, rfl⟩ := tp hu h2; simp [PyData.eqv]; done) | (cases h2; simp [PyData.eqv]; done); done)
      | (obtain ⟨r, e1, rfl⟩ := tp hu h2; cases h1; simp [PyData.eqv]; done)
      | (obtain ⟨r, e1, rfl⟩ := fp hu h2; cases h1; simp [PyData.eqv]; done)
theorem fEqA_pln {G : Store} {v u : Val} (hv : pln dEq v = true) (hu : pln dEq u = true) : fEqA v u G = .ok (.bl (decide (v = u))) G := by
  obtain ⟨d, e1⟩ := pln_toD (G := G) _ hv
  obtain ⟨e, e2⟩ := pln_toD (G := G) _ hu
  unfold fEqA orF fEq
  simp only [e1, e2, eqv_pln dEq hv hu e1 e2]
theorem fNeA_pln {G : Store} {v u : Val} (hv : pln dEq v = true) (hu : pln dEq u = true) : fNeA v u G = .ok (.bl (!decide (v = u))) G := by
  obtain ⟨d, e1⟩ := pln_toD (G := G) _ hv
  obtain ⟨e, e2⟩ := pln_toD (G := G) _ hu
  unfold fNeA orF fNe
  simp only [e1, e2, eqv_pln dEq hv hu e1 e2]
end R1

/-! R3g: raise and try. -/
namespace R1
open PySem
def tryR (v : Ht) (r : SR) : SR := match r with
  | .exc c G' => if c = ("NotValid" : Str) then (v.res G').toS fun w G2 => .ret w G2 else .bad
  | r => r
section
variable {G : Store} {ρ : Env1} {v : Ht} {w : Val} {c : Str}
@[simp] theorem v_raise : sRaise c ρ G = .exc c G := (rfl)
theorem v_try {b : SM} : sTry b v ρ G = tryR v (b ρ G) := (rfl)
@[simp] theorem tryR_exc : tryR v (.exc ("NotValid" : Str) G) = (v.res G).toS fun w G2 => .ret w G2 := by
  show (if ("NotValid" : Str) = ("NotValid" : Str) then (v.res G).toS fun w G2 => SR.ret w G2 else SR.bad) = _
  rw [if_pos rfl]
@[simp] theorem tryR_ret : tryR v (.ret w G) = .ret w G := (rfl)
@[simp] theorem tryR_next : tryR v (.next ρ G) = .next ρ G := (rfl)
@[simp] theorem res_val : (Ht.val w).res G = .ok w G := (rfl)
@[simp] theorem res_lst {z : Bool} {l : List Val} : (Ht.lst z l).res G = mkL z l G := (rfl)
@[simp] theorem e_isix {k : Nat} {T : String} {m : EM} : eIsiX k T m ρ G = (m ρ G).bind fun v G1 => if isIns k G1 v = true then .ok (.bl false) G1 else match tyN G1 v with
  | some n => .ok (.bl (isTy T n)) G1
  | none => .bad := (rfl)
theorem isIns_at {i k : Nat} {vs : List Val} (h : G[i]? = some (.ins k vs)) : isIns k G (.obj i) = true := by
  unfold isIns
  simp [h]
@[simp] theorem isIns_fro {k : Nat} {l : List Val} : isIns k G (.fro l) = false := (rfl)
@[simp] theorem isIns_bl {k : Nat} {b : Bool} : isIns k G (.bl b) = false := (rfl)
@[simp] theorem isIns_non {k : Nat} : isIns k G .non = false := (rfl)
@[simp] theorem trunc_exc {G' : Store} : trunc G (.exc c G') = .exc c G' := (rfl)
theorem fNeA_bb {b : Bool} : fNeA (.bl b) (.bl b) G = .ok (.bl false) G := fNeA_self (d := .bool b) rfl
theorem fEqA_bb {b : Bool} : fEqA (.bl b) (.bl b) G = .ok (.bl true) G := fEqA_self (d := .bool b) rfl
theorem fAdd_ff {z : Bool} {a b : List Val} (h : a.length + b.length ≤ 1000000) : fAdd z (.fro a) (.fro b) G = mkL z (a ++ b) G := by
  unfold fAdd orF fAddI fI fCat
  simp only [lst_fro]
  rw [if_pos (small_line h)]
  cases z <;> rfl
end
section
variable {α : Type} {p : Pt} {tt : TM} {te : EM} {ρw : Env1} {G : Store} {enc : α → Val}
theorem lcFob_pure {f : α → Bool} {g : α → Val} {xs : List α} {i : Nat} (hi : G[i]? = some (.lst (xs.map enc))) (h : ∀ a ∈ xs, ∃ ρ2, ptSet G p (enc a) ρw = some ρ2 ∧ tt ρ2 G = .ok (f a) G ∧ (f a = true → te ρ2 G = .ok (g a) G)) : ∀ (fuel : List Val) (k : Nat), fuel.length + k = xs.length → lcFob p tt te ρw i fuel k G = .ok (((xs.drop k).filter f).map g) G
  | [], k, hk => by
    unfold lcFob
    simp at hk
    simp only [hi, List.length_map]
    rw [if_pos (by omega), List.drop_of_length_le (by omega)]
    rfl
  | y :: fuel, k, hk => by
    simp only [List.length_cons] at hk
    have hkl : k < xs.length := by omega
    have ih := lcFob_pure hi h fuel (k + 1) (by omega)
    obtain ⟨ρ2, e1, e2, e3⟩ := h xs[k] (List.getElem_mem hkl)
    unfold lcFob
    simp only [hi, List.getElem?_map, List.getElem?_eq_getElem hkl, Option.map_some]
    unfold lcFT
    rw [e1]
    simp only [e2, bind_ok]
    rw [List.drop_eq_getElem_cons hkl]
    by_cases hf : f xs[k] = true
    · rw [if_pos hf, e3 hf]
      simp only [bind_ok, ih, List.filter_cons]
      rw [if_pos hf, List.map_cons]
    · rw [if_neg hf, ih, List.filter_cons, if_neg hf]
theorem eLcF_obj (xs : List α) (f : α → Bool) (g : α → Val) {z : Bool} {m : EM} {own : List Nat} {ρ : Env1} {i : Nat} (hm : m ρ G = .ok (.obj i) G) (hi : G[i]? = some (.lst (xs.map enc))) (hl : xs.length ≤ 1000000)
    (h : ∀ a ∈ xs, ∃ ρ2, ptSet G p (enc a) (wipe1 ρ own) = some ρ2 ∧ tt ρ2 G = .ok (f a) G ∧ (f a = true → te ρ2 G = .ok (g a) G)) : eLcF z m p tt te own ρ G = mkL z ((xs.filter f).map g) G := by
  unfold eLcF
  rw [hm]
  simp only [bind_ok, hi]
  rw [if_pos (small_line (by rw [List.length_map]; exact hl)), lcFob_pure hi h _ 0 (by simp)]
  rfl
theorem eLcF_obj1 (xs : List α) (g : α → Val) {z : Bool} {m : EM} {own : List Nat} {ρ : Env1} {i : Nat} (hm : m ρ G = .ok (.obj i) G) (hi : G[i]? = some (.lst (xs.map enc))) (hl : xs.length ≤ 1000000)
    (h : ∀ a ∈ xs, ∃ ρ2, ptSet G p (enc a) (wipe1 ρ own) = some ρ2 ∧ te ρ2 G = .ok (g a) G) : eLcF z m p tTrue te own ρ G = mkL z (xs.map g) G := by
  rw [eLcF_obj xs (fun _ => true) g hm hi hl fun a ha => ?_]
  · rw [List.filter_eq_self.mpr fun _ _ => rfl]
  · obtain ⟨ρ2, e1, e2⟩ := h a ha
    exact ⟨ρ2, e1, rfl, fun _ => e2⟩
end
end R1

namespace Dk
open PySem R1
noncomputable section
def b_Memory_log : SM := (sRet (eCall (bListA true) (aCons (eFld (eVar 0) [(1, 2)]) aNil)))
def m_Memory_log : F1 := runDefT 1 1 b_Memory_log
def b_Layout_call_slot : SM := (sRet (eOp (fAdd true) (eOp (fAdd true) (eC (.int 1)) (eFld (eVar 0) [(0, 0)])) (eVar 1)))
def m_Layout_call_slot : F1 := runDefT 2 2 b_Layout_call_slot
def b_Layout_record : SM := (sRet (eOp (fAdd true) (eOp (fAdd true) (eOp (fAdd true) (eC (.int 1)) (eOp (fMul true) (eC (.int 2)) (eFld (eVar 0) [(0, 0)]))) (eFld (eVar 0) [(0, 1)])) (eVar 1)))
def m_Layout_record : F1 := runDefT 2 2 b_Layout_record
def b_Layout_cells : SM := (sRet (eMeth [(0, m_Layout_record)] [] (eVar 0) (aCons (eFld (eVar 0) [(0, 2)]) aNil)))
def m_Layout_cells : F1 := runDefT 1 1 b_Layout_cells
def b_Layout_is_lasting : SM := (sRet (eChain fLe fLt (eMeth [(0, m_Layout_call_slot)] [] (eVar 0) (aCons (eC (.int 0)) aNil)) (eVar 1) (eMeth [(0, m_Layout_cells)] [] (eVar 0) aNil)))
def m_Layout_is_lasting : F1 := runDefT 2 2 b_Layout_is_lasting
def b_is_within : SM := (sRet (eAnd (eIsi "int" (eVar 0)) (eAnd (eNot (eIsi "bool" (eVar 0))) (eChain fLe fLe (eVar 1) (eVar 0) (eVar 2)))))
def m_is_within : F1 := runDefT 3 3 b_is_within
def b_Memory_check_cell : SM := (sIf (tNot1 (eTruth (eCallF m_is_within [] (aCons (eVar 1) (aCons (eC (.int 0)) (aCons (eOp fSub (eCall bLen (aCons (eFld (eVar 0) [(1, 3)]) aNil)) (eC (.int 1))) aNil)))))) sNever sPass)
def m_Memory_check_cell : F1 := runDef 2 2 b_Memory_check_cell
def b_Memory_check_lasting : SM := (sSeq (sEx (eMeth [(1, m_Memory_check_cell)] [] (eVar 0) (aCons (eVar 1) aNil))) (sIf (tNot1 (eTruth (eMeth [(0, m_Layout_is_lasting)] [] (eFld (eVar 0) [(1, 0)]) (aCons (eVar 1) aNil)))) sNever sPass))
def m_Memory_check_lasting : F1 := runDef 2 2 b_Memory_check_lasting
def b_Memory_lasting : SM := (sSeq (sEx (eMeth [(1, m_Memory_check_lasting)] [] (eVar 0) (aCons (eVar 1) aNil))) (sRet (eOp fIx (eOp fIx (eFld (eVar 0) [(1, 3)]) (eVar 1)) (eC (.int 0)))))
def m_Memory_lasting : F1 := runDef 2 2 b_Memory_lasting
def b_Memory_trail : SM := (sSeq (sEx (eMeth [(1, m_Memory_check_lasting)] [] (eVar 0) (aCons (eVar 1) aNil))) (sRet (eCall (bListA true) (aCons (eOp fIx (eFld (eVar 0) [(1, 3)]) (eVar 1)) aNil))))
def m_Memory_trail : F1 := runDef 2 2 b_Memory_trail
def b__law_same : SM := (sRet (eAnd (eOp fEqA (eIsi "bool" (eVar 0)) (eIsi "bool" (eVar 1))) (eOp fEqA (eVar 0) (eVar 1))))
def m__law_same : F1 := runDefT 2 2 b__law_same
def b_Memory_peek : SM := (sSeq (sEx (eMeth [(1, m_Memory_check_cell)] [] (eVar 0) (aCons (eVar 1) aNil))) (sRet (eOp fIx (eOp fIx (eFld (eVar 0) [(1, 3)]) (eVar 1)) (eNeg (eC (.int 1))))))
def m_Memory_peek : F1 := runDef 2 2 b_Memory_peek
def b__law_looks_l1 : SM := (sSeq (sIf (tNot1 (eTruth (eCallF m__law_same [] (aCons (eMeth [(1, m_Memory_peek)] [] (eVar 0) (aCons (eVar 2) aNil)) (aCons (eOp fIx (eOp fIx (eOp fIx (eVar 1) (eC (.str 15))) (eVar 2)) (eNeg (eC (.int 1)))) aNil))))) (sRet (eC (.bl false))) sPass) (sIf (tAnd1 (eTest (eOp fGe (eVar 2) (eC (.int 3)))) (tOr1 (eTest (eOp fNeA (eMeth [(1, m_Memory_trail)] [] (eVar 0) (aCons (eVar 2) aNil)) (eOp fIx (eOp fIx (eVar 1) (eC (.str 15))) (eVar 2)))) (eTest (eOp fNeA (eMeth [(1, m_Memory_lasting)] [] (eVar 0) (aCons (eVar 2) aNil)) (eOp fIx (eOp fIx (eOp fIx (eVar 1) (eC (.str 15))) (eVar 2)) (eC (.int 0))))))) (sRet (eC (.bl false))) sPass))
def b__law_looks : SM := (sSeq (sForR rng1 (aCons (eC (.int 13)) aNil) (.nm 2) b__law_looks_l1) (sRet (eOp fEqA (eFld (eVar 0) [(1, 1)]) (eOp fIx (eVar 1) (eC (.str 17))))))
def m__law_looks : F1 := runDef 3 2 b__law_looks
def b_Memory_no_notes : SM := (sRet (eLcFR false rng1 (aCons (eFld (eFld (eVar 0) [(1, 0)]) [(0, 0)]) aNil) (.nm 1) tTrue (eDic0 false) [1]))
def m_Memory_no_notes : F1 := runDef 2 1 b_Memory_no_notes
def b_Layout_epoch : SM := (sRet (eC (.int 0)))
def m_Layout_epoch : F1 := runDefT 1 1 b_Layout_epoch
def b_Memory_cut_R_l1 : SM := (sPut (eFld (eVar 0) [(1, 3)]) (eVar 4) (eLst false (aCons (eC .non) aNil)))
def b_Memory_shorten_l1 : SM := (sIf (eTest (eOp (fInA false) (eVar 1) (eVar 3))) (sPut (eVar 3) (eVar 1) (eCall bMax (aCons (eC (.int 0)) (aCons (eOp fSub (eOp fIx (eVar 3) (eVar 1)) (eVar 2)) aNil)))) sPass)
def b_Memory_shorten : SM := (sSeq (sSet 2 (eCall bMax (aCons (eC (.int 0)) (aCons (eCall bMin (aCons (eVar 2) (aCons (eOp fSub (eCall bLen (aCons (eOp fIx (eFld (eVar 0) [(1, 3)]) (eVar 1)) aNil)) (eC (.int 1))) aNil))) aNil)))) (sSeq (sPut (eFld (eVar 0) [(1, 3)]) (eVar 1) (eSl false (eOp fIx (eFld (eVar 0) [(1, 3)]) (eVar 1)) (oSome (eVar 2)) oNone)) (sForA (eFld (eVar 0) [(1, 4)]) (.nm 3) b_Memory_shorten_l1)))
def m_Memory_shorten : F1 := runDef 4 3 b_Memory_shorten
def b_Memory_cut_R_l2 : SM := (sSeq (sIf (eTest (eOp fLt (eOp fSub (eVar 4) (eVar 3)) (eCall bLen (aCons (eVar 1) aNil)))) (sEx (eMeth [(1, m_Memory_shorten)] [] (eVar 0) (aCons (eVar 4) (aCons (eOp fIx (eVar 1) (eOp fSub (eVar 4) (eVar 3))) aNil)))) sPass) (sPut (eFld (eVar 0) [(1, 3)]) (eVar 4) (eSl false (eOp fIx (eFld (eVar 0) [(1, 3)]) (eVar 4)) oNone (oSome (eC (.int 1))))))
def b_Memory_cut_R_l3 : SM := (sIf (tOr1 (tNot1 (eTruth (eIsi "int" (eVar 2)))) (tOr1 (eTruth (eIsi "bool" (eVar 2))) (eTest (eOp fLt (eVar 2) (eC (.int 0)))))) (sRaise "NotValid") sPass)
def b_Memory_cut_R : SM := (sSeq (sIf (tNot1 (eTruth (eIsi "list" (eVar 1)))) (sRaise "NotValid") sPass) (sSeq (sForA (eVar 1) (.nm 2) b_Memory_cut_R_l3) (sSeq (sSet 3 (eMeth [(0, m_Layout_call_slot)] [] (eFld (eVar 0) [(1, 0)]) (aCons (eC (.int 0)) aNil))) (sSeq (sForR rng2 (aCons (eVar 3) (aCons (eMeth [(0, m_Layout_cells)] [] (eFld (eVar 0) [(1, 0)]) aNil) aNil)) (.nm 4) b_Memory_cut_R_l2) (sSeq (sForR rng1 (aCons (eVar 3) aNil) (.nm 4) b_Memory_cut_R_l1) (sSeq (sPut (eFld (eVar 0) [(1, 3)]) (eMeth [(0, m_Layout_epoch)] [] (eFld (eVar 0) [(1, 0)]) aNil) (eLst false (aCons (eC (.int 0)) aNil))) (sFld1 1 4 (eVar 0) (eMeth [(1, m_Memory_no_notes)] [] (eVar 0) aNil))))))))
def m_Memory_cut_R : F1 := runDef 5 2 b_Memory_cut_R
def b_Memory_check_cell_R : SM := (sIf (tNot1 (eTruth (eCallF m_is_within [] (aCons (eVar 1) (aCons (eC (.int 0)) (aCons (eOp fSub (eCall bLen (aCons (eFld (eVar 0) [(1, 3)]) aNil)) (eC (.int 1))) aNil)))))) (sRaise "NotValid") sPass)
def m_Memory_check_cell_R : F1 := runDef 2 2 b_Memory_check_cell_R
def b_Memory_check_lasting_R : SM := (sSeq (sEx (eMeth [(1, m_Memory_check_cell_R)] [] (eVar 0) (aCons (eVar 1) aNil))) (sIf (tNot1 (eTruth (eMeth [(0, m_Layout_is_lasting)] [] (eFld (eVar 0) [(1, 0)]) (aCons (eVar 1) aNil)))) (sRaise "NotValid") sPass))
def m_Memory_check_lasting_R : F1 := runDef 2 2 b_Memory_check_lasting_R
def b_Memory_drift_R : SM := (sSeq (sEx (eMeth [(1, m_Memory_check_lasting_R)] [] (eVar 0) (aCons (eVar 1) aNil))) (sSeq (sIf (tOr1 (tNot1 (eTruth (eIsi "int" (eVar 2)))) (tOr1 (eTruth (eIsi "bool" (eVar 2))) (eTest (eOp fLt (eVar 2) (eC (.int 0)))))) (sRaise "NotValid") sPass) (sEx (eMeth [(1, m_Memory_shorten)] [] (eVar 0) (aCons (eVar 1) (aCons (eVar 2) aNil))))))
def m_Memory_drift_R : F1 := runDef 3 3 b_Memory_drift_R
def b_Memory_give : SM := (sIf (eTruth (eMeth [(0, m_Layout_is_lasting)] [] (eFld (eVar 0) [(1, 0)]) (aCons (eVar 1) aNil))) (sEx (eApp (eOp fIx (eFld (eVar 0) [(1, 3)]) (eVar 1)) (eVar 2))) (sPut (eFld (eVar 0) [(1, 3)]) (eVar 1) (eLst false (aCons (eVar 2) aNil))))
def m_Memory_give : F1 := runDef 3 3 b_Memory_give
def b_Memory_fence_l1 : SM := (sEx (eMeth [(1, m_Memory_shorten)] [] (eVar 0) (aCons (eVar 3) (aCons (eOp fIx (eVar 2) (eVar 3)) aNil))))
def b_Memory_fence : SM := (sSeq (sSet 2 (eOp fIx (eFld (eVar 0) [(1, 4)]) (eVar 1))) (sSeq (sPut (eFld (eVar 0) [(1, 4)]) (eVar 1) (eDic0 false)) (sForA (eCall bSortX (aCons (eVar 2) aNil)) (.nm 3) b_Memory_fence_l1)))
def m_Memory_fence : F1 := runDef 4 2 b_Memory_fence
def b_Memory_result : SM := (sSeq (sSet 3 (eOp fIx (eVar 2) (eC (.int 0)))) (sSeq (sIf (eTest (eOp fEqA (eVar 3) (eC (.str 7)))) (sRet (eMeth [(1, m_Memory_fence)] [] (eVar 0) (aCons (eVar 1) aNil))) sPass) (sSeq (sSet 4 (eOp fIx (eVar 2) (eC (.int 1)))) (sSeq (sIf (eTest (eOp fEqA (eVar 3) (eC (.str 6)))) (sSeq (sPut (eOp fIx (eFld (eVar 0) [(1, 4)]) (eVar 1)) (eVar 4) (eOp fSub (eCall bLen (aCons (eOp fIx (eFld (eVar 0) [(1, 3)]) (eVar 4)) aNil)) (eC (.int 1)))) (sRet (eC .non))) sPass) (sSeq (sSet 5 (eOp fIx (eOp fIx (eFld (eVar 0) [(1, 3)]) (eVar 4)) (eNeg (eC (.int 1))))) (sSeq (sIf (eTest (eOp fEqA (eVar 3) (eC (.str 2)))) (sRet (eVar 5)) sPass) (sSeq (sIf (eTest (eOp fEqA (eVar 3) (eC (.str 3)))) (sSeq (sEx (eMeth [(1, m_Memory_give)] [] (eVar 0) (aCons (eVar 4) (aCons (eOp fIx (eVar 2) (eC (.int 2))) aNil)))) (sRet (eC .non))) sPass) (sSeq (sIf (eTest (eOp fEqA (eVar 3) (eC (.str 4)))) (sSeq (sIf (eTest (eOp fNeA (eVar 5) (eOp fIx (eVar 2) (eC (.int 2))))) (sRet (eC (.bl false))) sPass) (sSeq (sEx (eMeth [(1, m_Memory_give)] [] (eVar 0) (aCons (eVar 4) (aCons (eOp fIx (eVar 2) (eC (.int 3))) aNil)))) (sRet (eC (.bl true))))) sPass) (sSeq (sIf (eTest (eOp fNeA (eVar 5) (eC (.int 0)))) (sRet (eC (.bl false))) sPass) (sSeq (sEx (eMeth [(1, m_Memory_give)] [] (eVar 0) (aCons (eVar 4) (aCons (eTup (aCons (eOp fIx (eVar 2) (eC (.int 2))) (aCons (eFld (eVar 0) [(1, 1)]) aNil))) aNil)))) (sRet (eC (.bl true)))))))))))))
def m_Memory_result : F1 := runDef 6 3 b_Memory_result
def b_Memory_check_request_R : SM := (sSeq (sIf (tOr1 (tNot1 (eTruth (eCallF m_is_within [] (aCons (eVar 1) (aCons (eC (.int 0)) (aCons (eOp fSub (eFld (eFld (eVar 0) [(1, 0)]) [(0, 0)]) (eC (.int 1))) aNil)))))) (tOr1 (tNot1 (eTruth (eIsi "tuple" (eVar 2)))) (eTest (eOp fEqA (eCall bLen (aCons (eVar 2) aNil)) (eC (.int 0)))))) (sRaise "NotValid") sPass) (sSeq (sIf (eTest (eOp fNeA (eKget [(2, (.int (2))), (3, (.int (3))), (4, (.int (4))), (5, (.int (3))), (6, (.int (2))), (7, (.int (1)))] 64 (eOp fIx (eVar 2) (eC (.int 0)))) (eCall bLen (aCons (eVar 2) aNil)))) (sRaise "NotValid") sPass) (sIf (eTest (eOp fEqA (eOp fIx (eVar 2) (eC (.int 0))) (eC (.str 6)))) (sEx (eMeth [(1, m_Memory_check_lasting_R)] [] (eVar 0) (aCons (eOp fIx (eVar 2) (eC (.int 1))) aNil))) (sIf (eTest (eOp fNeA (eOp fIx (eVar 2) (eC (.int 0))) (eC (.str 7)))) (sEx (eMeth [(1, m_Memory_check_cell_R)] [] (eVar 0) (aCons (eOp fIx (eVar 2) (eC (.int 1))) aNil))) sPass))))
def m_Memory_check_request_R : F1 := runDef 3 3 b_Memory_check_request_R
def b_Memory_access_R : SM := (sSeq (sEx (eMeth [(1, m_Memory_check_request_R)] [] (eVar 0) (aCons (eVar 1) (aCons (eVar 2) aNil)))) (sSeq (sFldAug1 1 1 (eVar 0) (eC (.int 1))) (sSeq (sEx (eApp (eFld (eVar 0) [(1, 2)]) (eTup (aCons (eFld (eVar 0) [(1, 1)]) (aCons (eVar 1) (aCons (eVar 2) aNil)))))) (sRet (eTup (aCons (eMeth [(1, m_Memory_result)] [] (eVar 0) (aCons (eVar 1) (aCons (eVar 2) aNil))) (aCons (eFld (eVar 0) [(1, 1)]) aNil)))))))
def m_Memory_access_R : F1 := runDef 3 3 b_Memory_access_R
def b__law_do : SM := (sTry (sSeq (sIf (eTest (eOp fEqA (eVar 1) (eC (.str 10)))) (sRet (eMeth [(1, m_Memory_access_R)] [] (eVar 0) (aCons (eVar 2) (aCons (eVar 3) aNil)))) sPass) (sSeq (sIf (eTest (eOp fEqA (eVar 1) (eC (.str 11)))) (sRet (eMeth [(1, m_Memory_drift_R)] [] (eVar 0) (aCons (eVar 2) (aCons (eVar 3) aNil)))) sPass) (sRet (eMeth [(1, m_Memory_cut_R)] [] (eVar 0) (aCons (eVar 2) aNil))))) (.lst true [.str 12, .bl true]))
def m__law_do : F1 := runDef 5 4 b__law_do
def b__law_give : SM := (sIf (eTest (eOp fLt (eVar 1) (eC (.int 3)))) (sPut (eOp fIx (eVar 0) (eC (.str 15))) (eVar 1) (eLst true (aCons (eVar 2) aNil))) (sPut (eOp fIx (eVar 0) (eC (.str 15))) (eVar 1) (eOp (fAdd true) (eOp fIx (eOp fIx (eVar 0) (eC (.str 15))) (eVar 1)) (eLst true (aCons (eVar 2) aNil)))))
def m__law_give : F1 := runDef 3 3 b__law_give
def b__law_shorten_l1 : SM := (sIf (eTest (eOp (fInA false) (eVar 1) (eVar 3))) (sPut (eVar 3) (eVar 1) (eCall bMax (aCons (eC (.int 0)) (aCons (eOp fSub (eOp fIx (eVar 3) (eVar 1)) (eVar 2)) aNil)))) sPass)
def b__law_shorten : SM := (sSeq (sSet 2 (eCall bMin (aCons (eVar 2) (aCons (eOp fSub (eCall bLen (aCons (eOp fIx (eOp fIx (eVar 0) (eC (.str 15))) (eVar 1)) aNil)) (eC (.int 1))) aNil)))) (sIf (eTest (eOp fGt (eVar 2) (eC (.int 0)))) (sSeq (sPut (eOp fIx (eVar 0) (eC (.str 15))) (eVar 1) (eSl false (eOp fIx (eOp fIx (eVar 0) (eC (.str 15))) (eVar 1)) (oSome (eVar 2)) oNone)) (sForA (eOp fIx (eVar 0) (eC (.str 16))) (.nm 3) b__law_shorten_l1)) sPass))
def m__law_shorten : F1 := runDef 4 3 b__law_shorten
def b__law_due_l1 : SM := (sEx (eCallF m__law_shorten [] (aCons (eVar 0) (aCons (eVar 4) (aCons (eOp fIx (eVar 6) (eVar 4)) aNil)))))
def b__law_due : SM := (sSeq (sSet 3 (eOp fIx (eVar 2) (eC (.int 0)))) (sSeq (sIf (eTest (eOp fEqA (eVar 3) (eC (.str 7)))) (sSeq (sSet 6 (eCall (bDictX true) (aCons (eOp fIx (eOp fIx (eVar 0) (eC (.str 16))) (eVar 1)) aNil))) (sSeq (sPut (eOp fIx (eVar 0) (eC (.str 16))) (eVar 1) (eDic0 false)) (sSeq (sForA (eCall bSortX (aCons (eVar 6) aNil)) (.nm 4) b__law_due_l1) (sRet (eC .non))))) sPass) (sSeq (sSet 4 (eOp fIx (eVar 2) (eC (.int 1)))) (sSeq (sSet 5 (eOp fIx (eOp fIx (eOp fIx (eVar 0) (eC (.str 15))) (eVar 4)) (eNeg (eC (.int 1))))) (sSeq (sIf (eTest (eOp fEqA (eVar 3) (eC (.str 6)))) (sSeq (sPut (eOp fIx (eOp fIx (eVar 0) (eC (.str 16))) (eVar 1)) (eVar 4) (eOp fSub (eCall bLen (aCons (eOp fIx (eOp fIx (eVar 0) (eC (.str 15))) (eVar 4)) aNil)) (eC (.int 1)))) (sRet (eC .non))) sPass) (sSeq (sIf (eTest (eOp fEqA (eVar 3) (eC (.str 2)))) (sRet (eVar 5)) sPass) (sSeq (sIf (eTest (eOp fEqA (eVar 3) (eC (.str 3)))) (sSeq (sEx (eCallF m__law_give [] (aCons (eVar 0) (aCons (eVar 4) (aCons (eOp fIx (eVar 2) (eC (.int 2))) aNil))))) (sRet (eC .non))) sPass) (sSeq (sIf (eTest (eOp fEqA (eVar 3) (eC (.str 4)))) (sSeq (sIf (eTest (eOp fNeA (eVar 5) (eOp fIx (eVar 2) (eC (.int 2))))) (sRet (eC (.bl false))) sPass) (sSeq (sEx (eCallF m__law_give [] (aCons (eVar 0) (aCons (eVar 4) (aCons (eOp fIx (eVar 2) (eC (.int 3))) aNil))))) (sRet (eC (.bl true))))) sPass) (sSeq (sIf (eTest (eOp fNeA (eVar 5) (eC (.int 0)))) (sRet (eC (.bl false))) sPass) (sSeq (sEx (eCallF m__law_give [] (aCons (eVar 0) (aCons (eVar 4) (aCons (eTup (aCons (eOp fIx (eVar 2) (eC (.int 2))) (aCons (eOp fIx (eVar 0) (eC (.str 17))) aNil))) aNil))))) (sRet (eC (.bl true)))))))))))))
def m__law_due : F1 := runDef 7 3 b__law_due
def b__law_value : SM := (sRet (eOp fIx (eLst true (aCons (eC (.int 0)) (aCons (eC (.int 1)) (aCons (eC .non) (aCons (eTup (aCons (eVar 0) (aCons (eC (.int 2)) aNil))) (aCons (eC (.str 8)) (aCons (eVar 0) (aCons (eC (.int 0)) (aCons (eTup (aCons (eC (.str 9)) (aCons (eC (.int 7)) aNil))) aNil))))))))) (eOp fMod (eVar 0) (eC (.int 8)))))
def m__law_value : F1 := runDefT 1 1 b__law_value
def b__law_request : SM := (sSeq (sSet 4 (eOp fIx (eLst true (aCons (eC (.int 5)) (aCons (eC (.int 6)) (aCons (eC (.int 7)) (aCons (eC (.int 3)) (aCons (eC (.int 5)) (aCons (eC (.int 6)) (aCons (eC (.int 0)) (aCons (eC (.int 1)) (aCons (eOp (fAdd true) (eC (.int 8)) (eOp fMod (eVar 2) (eC (.int 5)))) aNil)))))))))) (eOp fMod (eVar 2) (eC (.int 9))))) (sSeq (sSet 5 (eOp fMod (eVar 1) (eC (.int 10)))) (sSeq (sIf (eTest (eOp fLt (eVar 5) (eC (.int 3)))) (sRet (eTup (aCons (eC (.str 3)) (aCons (eVar 4) (aCons (eCallF m__law_value [] (aCons (eVar 3) aNil)) aNil))))) sPass) (sSeq (sIf (eTest (eOp fEqA (eVar 5) (eC (.int 3)))) (sSeq (sSet 6 (eOp fIx (eOp fIx (eOp fIx (eVar 0) (eC (.str 15))) (eVar 4)) (eNeg (eC (.int 1))))) (sSeq (sIf (eTest (eOp fEqA (eOp fMod (eVar 3) (eC (.int 3))) (eC (.int 0)))) (sSet 6 (eCallF m__law_value [] (aCons (eOp fDiv (eVar 3) (eC (.int 3))) aNil))) sPass) (sRet (eTup (aCons (eC (.str 4)) (aCons (eVar 4) (aCons (eVar 6) (aCons (eCallF m__law_value [] (aCons (eOp fDiv (eVar 3) (eC (.int 2))) aNil)) aNil)))))))) sPass) (sSeq (sIf (eTest (eOp fEqA (eVar 5) (eC (.int 4)))) (sRet (eTup (aCons (eC (.str 5)) (aCons (eVar 4) (aCons (eOp fIx (eLst true (aCons (eC (.str 9)) (aCons (eC (.str 18)) aNil))) (eOp fMod (eVar 3) (eC (.int 2)))) aNil))))) sPass) (sSeq (sIf (eTest (eOp fEqA (eVar 5) (eC (.int 5)))) (sRet (eTup (aCons (eC (.str 2)) (aCons (eVar 4) aNil)))) sPass) (sSeq (sIf (eTest (eOp fLt (eVar 5) (eC (.int 8)))) (sRet (eTup (aCons (eC (.str 6)) (aCons (eCall bMax (aCons (eC (.int 3)) (aCons (eVar 4) aNil))) aNil)))) sPass) (sRet (eTup (aCons (eC (.str 7)) aNil))))))))))
def m__law_request : F1 := runDefT 7 4 b__law_request
def b__law_cut_l1 : SM := (sSeq (sIf (eTest (eOp fLt (eOp fSub (eVar 2) (eC (.int 3))) (eCall bLen (aCons (eVar 1) aNil)))) (sEx (eCallF m__law_shorten [] (aCons (eVar 0) (aCons (eVar 2) (aCons (eOp fIx (eVar 1) (eOp fSub (eVar 2) (eC (.int 3)))) aNil))))) sPass) (sPut (eOp fIx (eVar 0) (eC (.str 15))) (eVar 2) (eSl false (eOp fIx (eOp fIx (eVar 0) (eC (.str 15))) (eVar 2)) oNone (oSome (eC (.int 1))))))
def b__law_cut : SM := (sSeq (sForR rng2 (aCons (eC (.int 3)) (aCons (eC (.int 13)) aNil)) (.nm 2) b__law_cut_l1) (sSeq (sPut (eOp fIx (eVar 0) (eC (.str 15))) (eC (.int 0)) (eLst false (aCons (eC (.int 0)) aNil))) (sSeq (sPut (eOp fIx (eVar 0) (eC (.str 15))) (eC (.int 1)) (eLst false (aCons (eC .non) aNil))) (sSeq (sPut (eOp fIx (eVar 0) (eC (.str 15))) (eC (.int 2)) (eLst false (aCons (eC .non) aNil))) (sPut (eVar 0) (eC (.str 16)) (eLst false (aCons (eDic0 false) (aCons (eDic0 false) aNil))))))))
def m__law_cut : F1 := runDef 3 2 b__law_cut
def b__law_wrong : SM := (sSeq (sSet 2 (eLst true (aCons (eTup (aCons (eC (.int 0)) (aCons (eTup (aCons (eC (.str 6)) (aCons (eC (.int 0)) aNil))) aNil))) (aCons (eTup (aCons (eC (.int 1)) (aCons (eTup (aCons (eC (.str 6)) (aCons (eC (.int 2)) aNil))) aNil))) (aCons (eTup (aCons (eC (.int 2)) (aCons (eTup (aCons (eC (.str 2)) (aCons (eC (.int 5)) aNil))) aNil))) (aCons (eTup (aCons (eNeg (eC (.int 1))) (aCons (eTup (aCons (eC (.str 7)) aNil)) aNil))) (aCons (eTup (aCons (eC (.int 0)) (aCons (eTup (aCons (eC (.str 2)) (aCons (eC (.int 13)) aNil))) aNil))) (aCons (eTup (aCons (eC (.int 0)) (aCons (eTup (aCons (eC (.str 7)) (aCons (eC (.int 1)) aNil))) aNil))) aNil)))))))) (sSeq (sSet 2 (eOp (fAdd true) (eVar 2) (eLst true (aCons (eTup (aCons (eC (.int 0)) (aCons (eTup (aCons (eC (.str 14)) (aCons (eC (.int 1)) aNil))) aNil))) (aCons (eTup (aCons (eC (.int 0)) (aCons (eTup (aCons (eC (.str 3)) (aCons (eC (.int 5)) aNil))) aNil))) (aCons (eTup (aCons (eC (.int 0)) (aCons (eTup (aCons (eC (.str 4)) (aCons (eNeg (eC (.int 1))) (aCons (eC (.int 0)) (aCons (eC (.int 0)) aNil))))) aNil))) (aCons (eTup (aCons (eC (.int 0)) (aCons (eTup aNil) aNil))) (aCons (eTup (aCons (eC (.int 0)) (aCons (eTup (aCons (eC (.str 6)) (aCons (eC (.int 13)) aNil))) aNil))) aNil)))))))) (sSeq (sIf (eTest (eOp fEqA (eOp fMod (eVar 1) (eC (.int 4))) (eC (.int 0)))) (sRet (eCallF m__law_do [] (aCons (eVar 0) (aCons (eC (.str 11)) (aCons (eOp fIx (eLst true (aCons (eC (.int 0)) (aCons (eC (.int 2)) (aCons (eC (.int 13)) (aCons (eNeg (eC (.int 1))) aNil))))) (eOp fMod (eOp fDiv (eVar 1) (eC (.int 4))) (eC (.int 4)))) (aCons (eC (.int 1)) aNil)))))) sPass) (sSeq (sIf (eTest (eOp fEqA (eOp fMod (eVar 1) (eC (.int 4))) (eC (.int 1)))) (sRet (eCallF m__law_do [] (aCons (eVar 0) (aCons (eC (.str 11)) (aCons (eC (.int 5)) (aCons (eOp fIx (eLst true (aCons (eNeg (eC (.int 1))) (aCons (eC .non) (aCons (eC (.bl true)) aNil)))) (eOp fMod (eOp fDiv (eVar 1) (eC (.int 4))) (eC (.int 3)))) aNil)))))) sPass) (sSeq (sIf (eTest (eOp fEqA (eOp fMod (eVar 1) (eC (.int 4))) (eC (.int 2)))) (sRet (eCallF m__law_do [] (aCons (eVar 0) (aCons (eC (.str 13)) (aCons (eOp fIx (eLst true (aCons (eLst true (aCons (eC (.int 0)) (aCons (eNeg (eC (.int 1))) aNil))) (aCons (eTup (aCons (eC (.int 0)) (aCons (eC (.int 1)) aNil))) (aCons (eC .non) (aCons (eLst true (aCons (eC (.bl true)) aNil)) aNil))))) (eOp fMod (eOp fDiv (eVar 1) (eC (.int 4))) (eC (.int 4)))) (aCons (eC .non) aNil)))))) sPass) (sRet (eCallF m__law_do [] (aCons (eVar 0) (aCons (eC (.str 10)) (aCons (eOp fIx (eOp fIx (eVar 2) (eOp fMod (eOp fDiv (eVar 1) (eC (.int 4))) (eC (.int 11)))) (eC (.int 0))) (aCons (eOp fIx (eOp fIx (eVar 2) (eOp fMod (eOp fDiv (eVar 1) (eC (.int 4))) (eC (.int 11)))) (eC (.int 1))) aNil)))))))))))
def m__law_wrong : F1 := runDef 3 2 b__law_wrong
def b__law_step : SM := (sSeq (sIf (eTest (eOp fEqA (eOp fMod (eVar 2) (eC (.int 11))) (eC (.int 10)))) (sRet (eOp fEqA (eCallF m__law_wrong [] (aCons (eVar 0) (aCons (eVar 3) aNil))) (eLst true (aCons (eC (.str 12)) (aCons (eC (.bl true)) aNil))))) sPass) (sSeq (sIf (eTest (eOp fEqA (eOp fMod (eVar 2) (eC (.int 11))) (eC (.int 9)))) (sSeq (sSet 8 (eOp fIx (eLst true (aCons (eC (.int 5)) (aCons (eC (.int 6)) (aCons (eC (.int 7)) (aCons (eC (.int 3)) aNil))))) (eOp fMod (eVar 3) (eC (.int 4))))) (sSeq (sIf (eTest (eOp fIsNot (eCallF m__law_do [] (aCons (eVar 0) (aCons (eC (.str 11)) (aCons (eVar 8) (aCons (eOp fMod (eVar 4) (eC (.int 5))) aNil))))) (eC .non))) (sRet (eC (.bl false))) sPass) (sSeq (sEx (eCallF m__law_shorten [] (aCons (eVar 1) (aCons (eVar 8) (aCons (eOp fMod (eVar 4) (eC (.int 5))) aNil))))) (sRet (eC (.bl true)))))) sPass) (sSeq (sIf (tAnd1 (eTest (eOp fEqA (eOp fMod (eVar 2) (eC (.int 11))) (eC (.int 8)))) (eTest (eOp fEqA (eOp fMod (eVar 3) (eC (.int 3))) (eC (.int 0))))) (sSeq (sSet 9 (eLcFR true rng1 (aCons (eOp fMod (eVar 3) (eC (.int 13))) aNil) (.nm 11) tTrue (eOp (fMul true) (eOp fMod (eOp (fAdd true) (eVar 4) (eOp (fMul true) (eC (.int 3)) (eVar 11))) (eC (.int 4))) (eOp fMod (eOp (fAdd true) (eOp fDiv (eVar 3) (eC (.int 3))) (eVar 11)) (eC (.int 2)))) [11])) (sSeq (sSet 10 (eCall (bListA true) (aCons (eVar 9) aNil))) (sSeq (sSet 7 (eCallF m__law_do [] (aCons (eVar 0) (aCons (eC (.str 13)) (aCons (eVar 10) (aCons (eC .non) aNil)))))) (sSeq (sEx (eCallF m__law_cut [] (aCons (eVar 1) (aCons (eVar 9) aNil)))) (sRet (eAnd (eOp fIs (eVar 7) (eC .non)) (eOp fEqA (eVar 10) (eVar 9)))))))) sPass) (sSeq (sSet 5 (eCallF m__law_request [] (aCons (eVar 1) (aCons (eOp fDiv (eVar 2) (eC (.int 11))) (aCons (eVar 3) (aCons (eVar 4) aNil)))))) (sSeq (sPut (eVar 1) (eC (.str 17)) (eOp (fAdd false) (eOp fIx (eVar 1) (eC (.str 17))) (eC (.int 1)))) (sSeq (sSet 6 (eCallF m__law_due [] (aCons (eVar 1) (aCons (eOp fMod (eOp fDiv (eVar 2) (eC (.int 110))) (eC (.int 2))) (aCons (eVar 5) aNil))))) (sSeq (sSet 7 (eCallF m__law_do [] (aCons (eVar 0) (aCons (eC (.str 10)) (aCons (eOp fMod (eOp fDiv (eVar 2) (eC (.int 110))) (eC (.int 2))) (aCons (eVar 5) aNil)))))) (sRet (eAnd (eIsi "tuple" (eVar 7)) (eAnd (eOp fEqA (eCall bLen (aCons (eVar 7) aNil)) (eC (.int 2))) (eAnd (eOp fEqA (eOp fIx (eVar 7) (eC (.int 1))) (eOp fIx (eVar 1) (eC (.str 17)))) (eCallF m__law_same [] (aCons (eOp fIx (eVar 7) (eC (.int 0))) (aCons (eVar 6) aNil))))))))))))))
def m__law_step : F1 := runDef 12 5 b__law_step
def b__law_at : SM := (sSeq (sIf (eTest (eOp fLt (eVar 1) (eCall bLen (aCons (eVar 0) aNil)))) (sRet (eOp fIx (eVar 0) (eVar 1))) sPass) (sRet (eC (.int 0))))
def m__law_at : F1 := runDefT 2 2 b__law_at
def b_law_l1 : SM := (sSeq (sIf (tNot1 (eTruth (eCallF m__law_step [] (aCons (eVar 2) (aCons (eVar 3) (aCons (eCallF m__law_at [] (aCons (eVar 1) (aCons (eOp (fAdd true) (eOp (fMul true) (eC (.int 3)) (eVar 4)) (eC (.int 1))) aNil))) (aCons (eCallF m__law_at [] (aCons (eVar 1) (aCons (eOp (fAdd true) (eOp (fMul true) (eC (.int 3)) (eVar 4)) (eC (.int 2))) aNil))) (aCons (eCallF m__law_at [] (aCons (eVar 1) (aCons (eOp (fAdd true) (eOp (fMul true) (eC (.int 3)) (eVar 4)) (eC (.int 3))) aNil))) aNil)))))))) (sRet (eC (.bl false))) sPass) (sIf (tNot1 (eTruth (eCallF m__law_looks [] (aCons (eVar 2) (aCons (eVar 3) aNil))))) (sRet (eC (.bl false))) sPass))
def b_Layout_word : SM := (sRet (eOp (fAdd true) (eOp (fAdd true) (eC (.int 1)) (eOp (fMul true) (eC (.int 2)) (eFld (eVar 0) [(0, 0)]))) (eVar 1)))
def m_Layout_word : F1 := runDefT 2 2 b_Layout_word
def b_Memory_init_l1 : SM := (sSeq (sPut (eFld (eVar 0) [(1, 3)]) (eMeth [(0, m_Layout_word)] [] (eVar 1) (aCons (eVar 2) aNil)) (eLst false (aCons (eMeth [(0, m_Layout_record)] [] (eVar 1) (aCons (eVar 2) aNil)) aNil))) (sPut (eFld (eVar 0) [(1, 3)]) (eMeth [(0, m_Layout_record)] [] (eVar 1) (aCons (eVar 2) aNil)) (eLst false (aCons (eTup (aCons (eC (.str 1)) (aCons (eTup aNil) aNil))) aNil))))
def b_Memory_init : SM := (sSeq (sFld1 1 0 (eVar 0) (eVar 1)) (sSeq (sFld1 1 1 (eVar 0) (eC (.int 0))) (sSeq (sFld1 1 2 (eVar 0) (eLst false aNil)) (sSeq (sFld1 1 3 (eVar 0) (eLcFR false rng1 (aCons (eMeth [(0, m_Layout_cells)] [] (eVar 1) aNil) aNil) (.nm 3) tTrue (eLst false (aCons (eC .non) aNil)) [3])) (sSeq (sPut (eFld (eVar 0) [(1, 3)]) (eMeth [(0, m_Layout_epoch)] [] (eVar 1) aNil) (eLst false (aCons (eC (.int 0)) aNil))) (sSeq (sForR rng1 (aCons (eFld (eVar 1) [(0, 1)]) aNil) (.nm 2) b_Memory_init_l1) (sFld1 1 4 (eVar 0) (eMeth [(1, m_Memory_no_notes)] [] (eVar 0) aNil))))))))
def m_Memory_init : F1 := runDef 4 2 b_Memory_init
def b_Layout_init : SM := (sSeq (sIf (tOr1 (tNot1 (eTruth (eCallF m_is_within [] (aCons (eVar 1) (aCons (eC (.int 1)) (aCons (eC (.int 3)) aNil)))))) (tNot1 (eTruth (eCallF m_is_within [] (aCons (eVar 2) (aCons (eC (.int 1)) (aCons (eC (.int 4)) aNil))))))) sNever sPass) (sSeq (sIf (tNot1 (eTruth (eCallF m_is_within [] (aCons (eVar 3) (aCons (eC (.int 4)) (aCons (eC (.int 200)) aNil)))))) sNever sPass) (sSeq (sFld1 0 0 (eVar 0) (eVar 1)) (sSeq (sFld1 0 1 (eVar 0) (eVar 2)) (sFld1 0 2 (eVar 0) (eVar 3))))))
def m_Layout_init : F1 := runDef 4 4 b_Layout_init
def b__law_tape_l1 : SM := (sIf (eTest (eOp fGt (eVar 3) (eC (.int 0)))) (sSeq (sEx (eApp (eVar 1) (eOp fMod (eVar 3) (eC (.int 1000))))) (sSet 3 (eOp fDiv (eVar 3) (eC (.int 1000))))) sPass)
def b__law_tape_l2 : SM := (sSeq (sSet 3 (eOp fMod (eOp (fAdd true) (eOp (fAdd true) (eOp (fMul true) (eVar 3) (eC (.int 48271))) (eOp (fMul true) (eC (.int 69621)) (eOp (fAdd true) (eVar 2) (eC (.int 1))))) (eOp (fMul true) (eC (.int 7)) (eVar 4))) (eC (.int 2147483647)))) (sSeq (sSet 3 (eOp fMod (eOp (fMul true) (eVar 3) (eC (.int 16807))) (eC (.int 2147483647)))) (sEx (eApp (eVar 1) (eOp fMod (eOp fDiv (eVar 3) (eC (.int 1000))) (eC (.int 1000)))))))
def b__law_tape_l3 : SM := (sSeq (sSet 3 (eCall bAbs (aCons (eCall bInt (aCons (eOp fIx (eVar 0) (eVar 2)) aNil)) aNil))) (sIf (eTest (eOp fGe (eVar 3) (eOp fPow (eC (.int 10)) (eC (.int 18))))) (sForR rng1 (aCons (eC (.int 60)) aNil) (.nm 4) b__law_tape_l1) (sForR rng1 (aCons (eC (.int 4)) aNil) (.nm 4) b__law_tape_l2)))
def b__law_tape : SM := (sSeq (sSet 1 (eLst false aNil)) (sSeq (sForR rng1 (aCons (eCall bLen (aCons (eVar 0) aNil)) aNil) (.nm 2) b__law_tape_l3) (sRet (eVar 1))))
def m__law_tape : F1 := runDefT 5 1 b__law_tape
def b_law : SM := (sSeq (sSet 1 (eCallF m__law_tape [] (aCons (eVar 0) aNil))) (sSeq (sSet 2 (eMake 1 m_Memory_init [] (aCons (eMake 0 m_Layout_init [] (aCons (eC (.int 2)) (aCons (eC (.int 2)) (aCons (eC (.int 6)) aNil)))) aNil))) (sSeq (sSet 3 (eCall (bDictX false) (aCons (eLst true (aCons (eTup (aCons (eC (.str 17)) (aCons (eC (.int 0)) aNil))) aNil)) aNil))) (sSeq (sPut (eVar 3) (eC (.str 15)) (eLcFR false rng1 (aCons (eC (.int 13)) aNil) (.nm 5) tTrue (eLst false (aCons (eMeth [(1, m_Memory_peek)] [] (eVar 2) (aCons (eVar 5) aNil)) aNil)) [5])) (sSeq (sPut (eVar 3) (eC (.str 16)) (eLst false (aCons (eDic0 false) (aCons (eDic0 false) aNil)))) (sSeq (sForR rng1 (aCons (eCall bMin (aCons (eOp fIx (eLst true (aCons (eC (.int 30)) (aCons (eC (.int 90)) aNil))) (eOp fMod (eCallF m__law_at [] (aCons (eVar 1) (aCons (eC (.int 0)) aNil))) (eC (.int 2)))) (aCons (eCall bMax (aCons (eC (.int 0)) (aCons (eOp fDiv (eOp fSub (eCall bLen (aCons (eVar 1) aNil)) (eC (.int 1))) (eC (.int 3))) aNil))) aNil))) aNil) (.nm 4) b_law_l1) (sRet (eOp fEqA (eCall bLen (aCons (eMeth [(1, m_Memory_log)] [] (eVar 2) aNil) aNil)) (eOp fIx (eVar 3) (eC (.str 17)))))))))))
def m_law : F1 := runDef 6 1 b_law
end
end Dk

namespace Dk
open PySem R1
/-! ### the layout -/
section
variable {G : Store} {L : Nat} {t w r : Int}
abbrev LayAt (G : Store) (L : Nat) (t w r : Int) : Prop := G[L]? = some (.ins 0 [.int t, .int w, .int r])
theorem lay_t (h : LayAt G L t w r) : fldV [(0, 0)] (.obj L) G = .ok (.int t) G := fldV_at h rfl
theorem lay_w (h : LayAt G L t w r) : fldV [(0, 1)] (.obj L) G = .ok (.int w) G := fldV_at h rfl
theorem lay_r (h : LayAt G L t w r) : fldV [(0, 2)] (.obj L) G = .ok (.int r) G := fldV_at h rfl
theorem mul2 {x : Int} : fMul true (.int 2) (.int x) G = .ok (.int (2 * x)) G := fMul_l (by decide)
theorem s_word (h : LayAt G L t w r) {i : Int} : m_Layout_word [.obj L, .int i] G = .ok (.int (1 + 2 * t + i)) G := by
  unfold m_Layout_word b_Layout_word
  rw [runT_eq (by rfl)]
  simp [lay_t h, mul2, trunc_d0]
theorem s_call_slot (h : LayAt G L t w r) {i : Int} : m_Layout_call_slot [.obj L, .int i] G = .ok (.int (1 + t + i)) G := by
  unfold m_Layout_call_slot b_Layout_call_slot
  rw [runT_eq (by rfl)]
  simp [lay_t h, trunc_d0]
theorem s_record (h : LayAt G L t w r) {i : Int} : m_Layout_record [.obj L, .int i] G = .ok (.int (1 + 2 * t + w + i)) G := by
  unfold m_Layout_record b_Layout_record
  rw [runT_eq (by rfl)]
  simp [lay_t h, lay_w h, mul2, trunc_d0]
theorem s_cells (h : LayAt G L t w r) : m_Layout_cells [.obj L] G = .ok (.int (1 + 2 * t + w + r)) G := by
  unfold m_Layout_cells b_Layout_cells
  rw [runT_eq (by rfl)]
  simp [methV_1 h, lay_r h, s_record h, trunc_d0]
theorem s_is_lasting (h : LayAt G L t w r) {c : Int} : m_Layout_is_lasting [.obj L, .int c] G = .ok (.bl (decide (1 + t ≤ c) && decide (c < 1 + 2 * t + w + r))) G := by
  unfold m_Layout_is_lasting b_Layout_is_lasting
  rw [runT_eq (by rfl)]
  by_cases h1 : 1 + t ≤ c
  · simp [methV_1 h, methV_1 h, s_cells h, s_call_slot h, h1, trunc_d0]
  · simp [methV_1 h, methV_1 h, s_cells h, s_call_slot h, h1, trunc_d0]
theorem s_is_within {a lo hi : Int} : m_is_within [.int a, .int lo, .int hi] G = .ok (.bl (decide (lo ≤ a) && decide (a ≤ hi))) G := by
  unfold m_is_within b_is_within
  rw [runT_eq (by rfl)]
  by_cases h1 : lo ≤ a <;> simp [isTy, h1, trunc_d0]
end
/-! ### lists and dicts of the store, by their objects -/
def Objs {α : Type} (e : α → Ob) (G : Store) : List Nat → List α → Prop
  | [], [] => True
  | o :: os, a :: as => G[o]? = some (e a) ∧ Objs e G os as
  | _, _ => False
section
variable {α : Type} {e : α → Ob} {G G' : Store}
theorem Objs.get : ∀ {os : List Nat} {as : List α} {t : Nat} {a : α}, Objs e G os as → as[t]? = some a → ∃ o, os[t]? = some o ∧ G[o]? = some (e a)
  | [], [], t, a, _, h => by simp at h
  | o :: os, b :: as, 0, a, h, k => by
    simp at k
    subst k
    exact ⟨o, rfl, h.1⟩
  | o :: os, b :: as, t + 1, a, h, k => by
    rw [List.getElem?_cons_succ] at k ⊢
    exact Objs.get h.2 k
theorem Objs.stay : ∀ {os : List Nat} {as : List α}, Objs e G os as → (∀ o ∈ os, G'[o]? = G[o]?) → Objs e G' os as
  | [], [], _, _ => trivial
  | o :: os, a :: as, h, k => ⟨by rw [k o (List.mem_cons_self ..)]; exact h.1, Objs.stay h.2 fun x hx => k x (List.mem_cons_of_mem _ hx)⟩
theorem Objs.len : ∀ {os : List Nat} {as : List α}, Objs e G os as → os.length = as.length
  | [], [], _ => rfl
  | _ :: _, _ :: _, h => congrArg Nat.succ (Objs.len h.2)
theorem Objs.lt : ∀ {os : List Nat} {as : List α}, Objs e G os as → ∀ o ∈ os, o < G.length
  | [], [], _, o, h => by cases h
  | q :: os, a :: as, h, o, ho => by
    rcases List.mem_cons.mp ho with rfl | ho
    · exact (List.getElem?_eq_some_iff.mp h.1).1
    · exact Objs.lt h.2 o ho
/-- one object has a new content -/
theorem Objs.put {a : α} : ∀ {os : List Nat} {as : List α} {t o : Nat}, Objs e G os as → os.Nodup → os[t]? = some o → (∀ q ∈ os, q ≠ o → G'[q]? = G[q]?) → G'[o]? = some (e a) → Objs e G' os (as.set t a)
  | [], [], t, o, _, _, h, _, _ => by simp at h
  | q :: os, b :: as, 0, o, h, n, k, f, g => by
    simp at k
    subst k
    obtain ⟨n1, n2⟩ := List.nodup_cons.mp n
    exact ⟨g, h.2.stay fun x hx => f x (List.mem_cons_of_mem _ hx) fun z => n1 (z ▸ hx)⟩
  | q :: os, b :: as, t + 1, o, h, n, k, f, g => by
    rw [List.getElem?_cons_succ] at k
    obtain ⟨n1, n2⟩ := List.nodup_cons.mp n
    exact ⟨by rw [f q (List.mem_cons_self ..) fun z => n1 (z ▸ List.mem_of_getElem? k)]; exact h.1, Objs.put h.2 n2 k (fun x hx => f x (List.mem_cons_of_mem _ hx)) g⟩
/-- one object is another now -/
theorem Objs.new {a : α} {o : Nat} : ∀ {os : List Nat} {as : List α} {t : Nat}, Objs e G os as → t < os.length → (∀ q ∈ os, G'[q]? = G[q]?) → G'[o]? = some (e a) → Objs e G' (os.set t o) (as.set t a)
  | [], [], t, _, h, _, _ => by simp at h
  | q :: os, b :: as, 0, h, _, f, g => ⟨g, h.2.stay fun x hx => f x (List.mem_cons_of_mem _ hx)⟩
  | q :: os, b :: as, t + 1, h, k, f, g => ⟨by rw [f q (List.mem_cons_self ..)]; exact h.1, Objs.new h.2 (Nat.lt_of_succ_lt_succ k) (fun x hx => f x (List.mem_cons_of_mem _ hx)) g⟩
end
abbrev lsO (l : List Val) : Ob := .lst l
abbrev dcO (d : Prs) : Ob := .dic (kvE Val.int d)
/-- a memory -/
structure Me where
  t : Nat
  w : Nat
  r : Nat
  count : Nat
  rows : List Val
  trails : List (List Val)
  notes : List Prs
/-- where it lies -/
structure Mx where
  M : Nat
  L : Nat
  R : Nat
  TR : Nat
  N : Nat
  ts : List Nat
  ns : List Nat
def Mx.own (x : Mx) : List Nat := x.M :: x.R :: x.TR :: x.N :: (x.ts ++ x.ns)
structure MemAt (x : Mx) (m : Me) (G : Store) : Prop where
  mem : G[x.M]? = some (.ins 1 [.obj x.L, .int (m.count : Int), .obj x.R, .obj x.TR, .obj x.N])
  lay : LayAt G x.L m.t m.w m.r
  rows : G[x.R]? = some (.lst m.rows)
  tr : G[x.TR]? = some (.lst (x.ts.map .obj))
  trs : Objs lsO G x.ts m.trails
  no : G[x.N]? = some (.lst (x.ns.map .obj))
  nos : Objs dcO G x.ns m.notes
  nd : (x.L :: x.own).Nodup
def Me.cells (m : Me) : Nat := 1 + 2 * m.t + m.w + m.r
def Me.last (m : Me) (c : Nat) : Bool := decide (1 + m.t ≤ c) && decide (c < m.cells)
def okV (v : Val) : Prop := dat v = true ∧ ∃ d, dataOf v = some d
structure Me.Wf (m : Me) : Prop where
  len : m.trails.length = m.cells
  ne : ∀ l ∈ m.trails, l ≠ []
  val : ∀ l ∈ m.trails, ∀ v ∈ l, okV v
  tl : ∀ l ∈ m.trails, l.length ≤ m.count + 1
  nl : m.notes.length = m.t
  nk : ∀ d ∈ m.notes, (Keys d).Nodup
  rl : m.rows.length ≤ m.count
  nc : ∀ d ∈ m.notes, ∀ k ∈ Keys d, ∃ c : Nat, k = (c : Int) ∧ c < m.cells ∧ m.last c = true
  cb : m.cells ≤ 5000
theorem Me.Wf.hnd {m : Me} (wf : m.Wf) : ∀ d ∈ m.notes, d.length ≤ 5000 := fun d hd => by
  have h := List.Nodup.length_le_of_subset (l₁ := Keys d) (l₂ := (List.range m.cells).map fun (c : Nat) => (c : Int)) (wf.nk d hd) fun k hk => by
    obtain ⟨c, e, hc, _⟩ := wf.nc d hd k hk
    exact List.mem_map.mpr ⟨c, List.mem_range.mpr hc, e.symm⟩
  rw [List.length_map, List.length_map, List.length_range] at h
  exact Nat.le_trans h wf.cb
/-- what is not the memory's stays -/
structure Fr (x : Mx) (G : Store) (x' : Mx) (G' : Store) : Prop where
  M : x'.M = x.M
  L : x'.L = x.L
  off : ∀ j, j < G.length → j ∉ x.own → G'[j]? = G[j]?
  len : G.length ≤ G'.length
  own : ∀ j ∈ x'.own, j ∈ x.own ∨ G.length ≤ j
theorem Fr.refl {x : Mx} {G : Store} : Fr x G x G := ⟨rfl, rfl, fun _ _ _ => rfl, Nat.le_refl _, fun _ h => .inl h⟩
theorem Fr.trans {x y z : Mx} {G G' G2 : Store} (a : Fr x G y G') (b : Fr y G' z G2) : Fr x G z G2 :=
  ⟨b.M.trans a.M, b.L.trans a.L, fun j h1 h2 => (b.off j (Nat.lt_of_lt_of_le h1 a.len) fun z => (a.own j z).elim h2 fun q => absurd h1 (Nat.not_lt.mpr q)).trans (a.off j h1 h2), Nat.le_trans a.len b.len, fun j h => (b.own j h).elim (a.own j) fun q => .inr (Nat.le_trans a.len q)⟩
section
variable {x : Mx} {m : Me} {G : Store} {c : Nat}
theorem MemAt.stay {G' : Store} (h : MemAt x m G) (k : ∀ j, j = x.L ∨ j ∈ x.own → G'[j]? = G[j]?) : MemAt x m G' := by
  have ow : ∀ j, j ∈ x.M :: x.R :: x.TR :: x.N :: (x.ts ++ x.ns) → G'[j]? = G[j]? := fun j hj => k j (.inr hj)
  exact ⟨by rw [ow x.M (by simp)]; exact h.mem, by unfold LayAt; rw [k x.L (.inl rfl)]; exact h.lay, by rw [ow x.R (by simp)]; exact h.rows, by rw [ow x.TR (by simp)]; exact h.tr, h.trs.stay fun o ho => ow o (by simp [ho]), by rw [ow x.N (by simp)]; exact h.no, h.nos.stay fun o ho => ow o (by simp [ho]), h.nd⟩
/-! reading -/
theorem mf_lay (h : MemAt x m G) : fldV [(1, 0)] (.obj x.M) G = .ok (.obj x.L) G := fldV_at h.mem rfl
theorem mf_count (h : MemAt x m G) : fldV [(1, 1)] (.obj x.M) G = .ok (.int (m.count : Int)) G := fldV_at h.mem rfl
theorem mf_rows (h : MemAt x m G) : fldV [(1, 2)] (.obj x.M) G = .ok (.obj x.R) G := fldV_at h.mem rfl
theorem mf_tr (h : MemAt x m G) : fldV [(1, 3)] (.obj x.M) G = .ok (.obj x.TR) G := fldV_at h.mem rfl
theorem mf_no (h : MemAt x m G) : fldV [(1, 4)] (.obj x.M) G = .ok (.obj x.N) G := fldV_at h.mem rfl
theorem len_tr (h : MemAt x m G) (wf : m.Wf) : bLen [.obj x.TR] G = .ok (.int (m.cells : Int)) G := by
  have := bLen_obj h.tr
  rw [List.length_map, h.trs.len, wf.len] at this
  exact this
theorem tr_at (h : MemAt x m G) (wf : m.Wf) (hc : c < m.cells) : ∃ o l, x.ts[c]? = some o ∧ m.trails[c]? = some l ∧ l ≠ [] ∧ G[o]? = some (.lst l) ∧ fIx (.obj x.TR) (.int (c : Int)) G = .ok (.obj o) G := by
  have hl : c < m.trails.length := by rw [wf.len]; exact hc
  obtain ⟨o, e1, e2⟩ := h.trs.get (List.getElem?_eq_getElem hl)
  exact ⟨o, _, e1, List.getElem?_eq_getElem hl, wf.ne _ (List.getElem_mem hl), e2, fIx_lobj h.tr (by rw [List.getElem?_map, e1]; rfl)⟩
def Me.cur (m : Me) (c : Nat) : Val := ((m.trails[c]?.getD []).getLast?).getD .non
theorem atL_last {l : List Val} : atL l (-1) = l.getLast? := by
  unfold atL L2.atI
  cases l with
  | nil => rfl
  | cons v l =>
    have e : L2.ixN (v :: l).length (-1) = some l.length := by
      unfold L2.ixN
      simp
      omega
    rw [e]
    show (v :: l)[l.length]? = _
    rw [List.getLast?_eq_getElem?]
    simp
theorem fIx_last {o : Nat} {l : List Val} {v : Val} (h : G[o]? = some (.lst l)) (e : l.getLast? = some v) : fIx (.obj o) (.int (-1)) G = .ok v G := by
  unfold fIx orF fIxS
  rw [items_obj h]
  simp only [atL_last, e]
theorem cur_at (wf : m.Wf) (hc : c < m.cells) {l : List Val} (hl : m.trails[c]? = some l) : l.getLast? = some (m.cur c) ∧ okV (m.cur c) := by
  have hm := List.mem_of_getElem? hl
  obtain ⟨v, hv⟩ := Option.ne_none_iff_exists'.mp (fun z => wf.ne _ hm (List.getLast?_eq_none_iff.mp z))
  have e : m.cur c = v := by
    unfold Me.cur
    rw [hl]
    simp [hv]
  rw [e]
  exact ⟨hv, wf.val _ hm _ (List.mem_of_getLast? hv)⟩
theorem s_check_cell (h : MemAt x m G) (wf : m.Wf) (hc : c < m.cells) : m_Memory_check_cell [.obj x.M, .int (c : Int)] G = .ok .non G := by
  unfold m_Memory_check_cell b_Memory_check_cell
  rw [run_eq (by rfl)]
  have h1 : ((c : Int) ≤ (m.cells : Int) - 1) := by omega
  simp [mf_tr h, len_tr h wf, s_is_within, h1]
theorem s_peek (h : MemAt x m G) (wf : m.Wf) (hc : c < m.cells) : m_Memory_peek [.obj x.M, .int (c : Int)] G = .ok (m.cur c) G := by
  unfold m_Memory_peek b_Memory_peek
  rw [run_eq (by rfl)]
  obtain ⟨o, l, e1, e2, e3, e4, e5⟩ := tr_at h wf hc
  obtain ⟨e6, _⟩ := cur_at wf hc e2
  simp [methV_1 h.mem, s_check_cell h wf hc, mf_tr h, e5, fIx_last e4 e6]
theorem lastI (h : MemAt x m G) : m_Layout_is_lasting [.obj x.L, .int (c : Int)] G = .ok (.bl (m.last c)) G := by
  rw [s_is_lasting h.lay]
  unfold Me.last Me.cells
  congr 3
  · simp only [decide_eq_decide]
    omega
  · simp only [decide_eq_decide]
    omega
theorem s_check_lasting (h : MemAt x m G) (wf : m.Wf) (hc : c < m.cells) (hl : m.last c = true) : m_Memory_check_lasting [.obj x.M, .int (c : Int)] G = .ok .non G := by
  unfold m_Memory_check_lasting b_Memory_check_lasting
  rw [run_eq (by rfl)]
  simp [methV_1 h.mem, s_check_cell h wf hc, mf_lay h, methV_1 h.lay, lastI h, hl]
end
section
variable {x : Mx} {m : Me} {G : Store} {c : Nat}
theorem s_check_cellR (h : MemAt x m G) (wf : m.Wf) (hc : c < m.cells) : m_Memory_check_cell_R [.obj x.M, .int (c : Int)] G = .ok .non G := by
  unfold m_Memory_check_cell_R b_Memory_check_cell_R
  rw [run_eq (by rfl)]
  have h1 : ((c : Int) ≤ (m.cells : Int) - 1) := by omega
  simp [mf_tr h, len_tr h wf, s_is_within, h1]
theorem s_check_lastingR (h : MemAt x m G) (wf : m.Wf) (hc : c < m.cells) (hl : m.last c = true) : m_Memory_check_lasting_R [.obj x.M, .int (c : Int)] G = .ok .non G := by
  unfold m_Memory_check_lasting_R b_Memory_check_lasting_R
  rw [run_eq (by rfl)]
  simp [methV_1 h.mem, s_check_cellR h wf hc, mf_lay h, methV_1 h.lay, lastI h, hl]
/-- a cell that is none -/
theorem x_check_cell (h : MemAt x m G) (wf : m.Wf) {i : Int} (hi : i < 0 ∨ (m.cells : Int) ≤ i) : m_Memory_check_cell_R [.obj x.M, .int i] G = .exc ("NotValid" : Str) G := by
  unfold m_Memory_check_cell_R b_Memory_check_cell_R
  rw [run_eq (by rfl)]
  have h1 : i < 0 ∨ (m.cells : Int) - 1 < i := by omega
  simp [mf_tr h, len_tr h wf, s_is_within, if_pos h1]
theorem x_check_lasting (h : MemAt x m G) (wf : m.Wf) {i : Int} (hi : i < 0 ∨ (m.cells : Int) ≤ i ∨ i < 1 + (m.t : Int)) : m_Memory_check_lasting_R [.obj x.M, .int i] G = .exc ("NotValid" : Str) G := by
  unfold m_Memory_check_lasting_R b_Memory_check_lasting_R
  rw [run_eq (by rfl)]
  by_cases h2 : i < 0 ∨ (m.cells : Int) ≤ i
  · simp [methV_1 h.mem, x_check_cell h wf h2]
  · obtain ⟨c, rfl⟩ : ∃ c : Nat, i = (c : Int) := ⟨i.toNat, by omega⟩
    have hc : c < m.cells := by omega
    have hl : m.last c = false := by
      unfold Me.last
      simp
      omega
    simp [methV_1 h.mem, s_check_cellR h wf hc, mf_lay h, methV_1 h.lay, lastI h, hl]
end
section
variable {x : Mx} {m : Me} {G : Store} {c : Nat}
theorem nodup_set {n : Nat} : ∀ {l : List Nat} {c : Nat}, l.Nodup → n ∉ l → (l.set c n).Nodup
  | [], c, _, _ => by simp
  | q :: l, 0, h, hn => by
    obtain ⟨h1, h2⟩ := List.nodup_cons.mp h
    exact List.nodup_cons.mpr ⟨fun z => hn (List.mem_cons_of_mem _ z), h2⟩
  | q :: l, c + 1, h, hn => by
    obtain ⟨h1, h2⟩ := List.nodup_cons.mp h
    refine List.nodup_cons.mpr ⟨fun z => ?_, nodup_set h2 fun z => hn (List.mem_cons_of_mem _ z)⟩
    rcases List.mem_or_eq_of_mem_set z with z | z
    · exact h1 z
    · exact hn (by rw [z]; exact List.mem_cons_self ..)
theorem MemAt.lt (h : MemAt x m G) : ∀ j ∈ x.own, j < G.length := by
  intro j hj
  unfold Mx.own at hj
  simp only [List.mem_cons, List.mem_append] at hj
  rcases hj with rfl | rfl | rfl | rfl | hj | hj
  · exact (List.getElem?_eq_some_iff.mp h.mem).1
  · exact (List.getElem?_eq_some_iff.mp h.rows).1
  · exact (List.getElem?_eq_some_iff.mp h.tr).1
  · exact (List.getElem?_eq_some_iff.mp h.no).1
  · exact h.trs.lt j hj
  · exact h.nos.lt j hj
theorem MemAt.ltL (h : MemAt x m G) : x.L < G.length := (List.getElem?_eq_some_iff.mp h.lay).1
/-- the pieces of nodup -/
structure Mx.Ne (x : Mx) : Prop where
  LM : x.L ≠ x.M
  LR : x.L ≠ x.R
  LT : x.L ≠ x.TR
  LN : x.L ≠ x.N
  Lt : x.L ∉ x.ts
  Ln : x.L ∉ x.ns
  MR : x.M ≠ x.R
  MT : x.M ≠ x.TR
  MN : x.M ≠ x.N
  Mt : x.M ∉ x.ts
  Mn : x.M ∉ x.ns
  RT : x.R ≠ x.TR
  RN : x.R ≠ x.N
  Rt : x.R ∉ x.ts
  Rn : x.R ∉ x.ns
  TN : x.TR ≠ x.N
  Tt : x.TR ∉ x.ts
  Tn : x.TR ∉ x.ns
  Nt : x.N ∉ x.ts
  Nn : x.N ∉ x.ns
  ts : x.ts.Nodup
  ns : x.ns.Nodup
  dj : ∀ a ∈ x.ts, a ∉ x.ns
theorem MemAt.ne (h : MemAt x m G) : x.Ne := by
  have h0 := h.nd
  unfold Mx.own at h0
  simp only [List.nodup_cons, List.mem_cons, List.mem_append, not_or, List.nodup_append] at h0
  obtain ⟨⟨a1, a2, a3, a4, a5, a6⟩, ⟨b2, b3, b4, b5, b6⟩, ⟨c3, c4, c5, c6⟩, ⟨d4, d5, d6⟩, ⟨e5, e6⟩, f1, f2, f3⟩ := h0
  exact ⟨a1, a2, a3, a4, a5, a6, b2, b3, b4, b5, b6, c3, c4, c5, c6, d4, d5, d6, e5, e6, f1, f2, fun a h1 h2 => f3 a h1 a h2 rfl⟩
/-- a trail is changed in its place -/
theorem MemAt.put (h : MemAt x m G) {o : Nat} {l : List Val} (e : x.ts[c]? = some o) : MemAt x { m with trails := m.trails.set c l } (G.set o (Ob.lst l)) ∧ Fr x G x (G.set o (Ob.lst l)) := by
  have ho := List.mem_of_getElem? e
  have n := h.ne
  have hol := h.trs.lt o ho
  have k : ∀ j, j ≠ o → (G.set o (Ob.lst l))[j]? = G[j]? := fun j hj => List.getElem?_set_ne (Ne.symm hj)
  have mem : ∀ {j : Nat}, j ∉ x.ts → j ≠ o := fun hj z => hj (z ▸ ho)
  refine ⟨⟨?_, ?_, ?_, ?_, ?_, ?_, ?_, h.nd⟩, rfl, rfl, fun j h1 h2 => k j fun z => h2 ?_, by rw [List.length_set]; exact Nat.le_refl _, fun j hj => .inl hj⟩
  · rw [k _ (mem n.Mt)]; exact h.mem
  · show _ = _
    rw [k _ (mem n.Lt)]; exact h.lay
  · rw [k _ (mem n.Rt)]; exact h.rows
  · rw [k _ (mem n.Tt)]; exact h.tr
  · exact h.trs.put n.ts e (fun q _ hq => k q hq) (by rw [List.getElem?_set_self hol])
  · rw [k _ (mem n.Nt)]; exact h.no
  · exact h.nos.stay fun q hq => k q fun z => n.dj o ho (z ▸ hq)
  · unfold Mx.own
    rw [z]
    simp [ho]
/-- a trail is another list now -/
theorem MemAt.new (h : MemAt x m G) {l : List Val} (hc : c < x.ts.length) : MemAt { x with ts := x.ts.set c G.length } { m with trails := m.trails.set c l } ((G ++ [Ob.lst l]).set x.TR (Ob.lst ((x.ts.set c G.length).map Val.obj))) ∧ Fr x G { x with ts := x.ts.set c G.length } ((G ++ [Ob.lst l]).set x.TR (Ob.lst ((x.ts.set c G.length).map Val.obj))) := by
  have n := h.ne
  have hT : x.TR < G.length := (List.getElem?_eq_some_iff.mp h.tr).1
  have k : ∀ j, j ≠ x.TR → j < G.length → ((G ++ [Ob.lst l]).set x.TR (Ob.lst ((x.ts.set c G.length).map Val.obj)))[j]? = G[j]? := fun j hj hl => by
    rw [List.getElem?_set_ne (Ne.symm hj), List.getElem?_append_left hl]
  have lt := h.lt
  have ow : ∀ {j : Nat}, (j = x.M ∨ j = x.R ∨ j = x.TR ∨ j = x.N ∨ j ∈ x.ts ∨ j ∈ x.ns) → j < G.length := fun hj => lt _ (by unfold Mx.own; simpa using hj)
  refine ⟨⟨?_, ?_, ?_, ?_, ?_, ?_, ?_, ?_⟩, rfl, rfl, fun j h1 h2 => k j (fun z => h2 (by unfold Mx.own; rw [z]; simp)) h1, by simp, fun j hj => ?_⟩
  · rw [k _ n.MT (ow (.inl rfl))]; exact h.mem
  · show _ = _
    rw [k _ n.LT h.ltL]; exact h.lay
  · rw [k _ n.RT (ow (.inr (.inl rfl)))]; exact h.rows
  · rw [List.getElem?_set_self (by rw [List.length_append]; omega)]
  · refine h.trs.new hc (fun q hq => k q (fun z => n.Tt (z ▸ hq)) (ow (.inr (.inr (.inr (.inr (.inl hq))))))) ?_
    rw [List.getElem?_set_ne (show x.TR ≠ G.length by omega)]
    simp
  · rw [k _ (Ne.symm n.TN) (ow (.inr (.inr (.inr (.inl rfl)))))]; exact h.no
  · exact h.nos.stay fun q hq => k q (fun z => n.Tn (z ▸ hq)) (ow (.inr (.inr (.inr (.inr (.inr hq))))))
  · have e : (x.L :: Mx.own { x with ts := x.ts.set c G.length }) = (x.L :: x.own).set (c + 5) G.length := by
      unfold Mx.own
      show _ = x.L :: x.M :: x.R :: x.TR :: x.N :: (x.ts ++ x.ns).set c G.length
      rw [List.set_append_left _ _ hc]
    show (x.L :: Mx.own { x with ts := x.ts.set c G.length }).Nodup
    rw [e]
    refine nodup_set h.nd fun z => ?_
    rcases List.mem_cons.mp z with z | z
    · have := h.ltL
      omega
    · have := lt _ z
      omega
  · unfold Mx.own at hj ⊢
    simp only [List.mem_cons, List.mem_append] at hj ⊢
    rcases hj with hj | hj | hj | hj | hj | hj
    · exact .inl (.inl hj)
    · exact .inl (.inr (.inl hj))
    · exact .inl (.inr (.inr (.inl hj)))
    · exact .inl (.inr (.inr (.inr (.inl hj))))
    · rcases List.mem_or_eq_of_mem_set hj with hj | hj
      · exact .inl (.inr (.inr (.inr (.inr (.inl hj)))))
      · exact .inr (by omega)
    · exact .inl (.inr (.inr (.inr (.inr (.inr hj)))))
/-- a thread's notes are changed in their place -/
theorem MemAt.note (h : MemAt x m G) {o th : Nat} {d : Prs} (e : x.ns[th]? = some o) : MemAt x { m with notes := m.notes.set th d } (G.set o (Ob.dic (kvE Val.int d))) ∧ Fr x G x (G.set o (Ob.dic (kvE Val.int d))) := by
  have ho := List.mem_of_getElem? e
  have n := h.ne
  have hol := h.nos.lt o ho
  have k : ∀ j, j ≠ o → (G.set o (Ob.dic (kvE Val.int d)))[j]? = G[j]? := fun j hj => List.getElem?_set_ne (Ne.symm hj)
  have mem : ∀ {j : Nat}, j ∉ x.ns → j ≠ o := fun hj z => hj (z ▸ ho)
  refine ⟨⟨?_, ?_, ?_, ?_, ?_, ?_, ?_, h.nd⟩, rfl, rfl, fun j h1 h2 => k j fun z => h2 ?_, by rw [List.length_set]; exact Nat.le_refl _, fun j hj => .inl hj⟩
  · rw [k _ (mem n.Mn)]; exact h.mem
  · show _ = _
    rw [k _ (mem n.Ln)]; exact h.lay
  · rw [k _ (mem n.Rn)]; exact h.rows
  · rw [k _ (mem n.Tn)]; exact h.tr
  · exact h.trs.stay fun q hq => k q fun z => n.dj q hq (z ▸ ho)
  · rw [k _ (mem n.Nn)]; exact h.no
  · exact h.nos.put n.ns e (fun q _ hq => k q hq) (by rw [List.getElem?_set_self hol])
  · unfold Mx.own
    rw [z]
    simp [ho]
/-- a thread's notes are a new dict -/
theorem MemAt.noteNew (h : MemAt x m G) {th : Nat} (hc : th < x.ns.length) : MemAt { x with ns := x.ns.set th G.length } { m with notes := m.notes.set th [] } ((G ++ [Ob.dic []]).set x.N (Ob.lst ((x.ns.set th G.length).map Val.obj))) ∧ Fr x G { x with ns := x.ns.set th G.length } ((G ++ [Ob.dic []]).set x.N (Ob.lst ((x.ns.set th G.length).map Val.obj))) := by
  have n := h.ne
  have hT : x.N < G.length := (List.getElem?_eq_some_iff.mp h.no).1
  have k : ∀ j, j ≠ x.N → j < G.length → ((G ++ [Ob.dic []]).set x.N (Ob.lst ((x.ns.set th G.length).map Val.obj)))[j]? = G[j]? := fun j hj hl => by
    rw [List.getElem?_set_ne (Ne.symm hj), List.getElem?_append_left hl]
  have lt := h.lt
  have ow : ∀ {j : Nat}, (j = x.M ∨ j = x.R ∨ j = x.TR ∨ j = x.N ∨ j ∈ x.ts ∨ j ∈ x.ns) → j < G.length := fun hj => lt _ (by unfold Mx.own; simpa using hj)
  refine ⟨⟨?_, ?_, ?_, ?_, ?_, ?_, ?_, ?_⟩, rfl, rfl, fun j h1 h2 => k j (fun z => h2 (by unfold Mx.own; rw [z]; simp)) h1, by simp, fun j hj => ?_⟩
  · rw [k _ n.MN (ow (.inl rfl))]; exact h.mem
  · show _ = _
    rw [k _ n.LN h.ltL]; exact h.lay
  · rw [k _ n.RN (ow (.inr (.inl rfl)))]; exact h.rows
  · rw [k _ n.TN (ow (.inr (.inr (.inl rfl))))]; exact h.tr
  · exact h.trs.stay fun q hq => k q (fun z => n.Nt (z ▸ hq)) (ow (.inr (.inr (.inr (.inr (.inl hq))))))
  · rw [List.getElem?_set_self (by rw [List.length_append]; omega)]
  · refine h.nos.new hc (fun q hq => k q (fun z => n.Nn (z ▸ hq)) (ow (.inr (.inr (.inr (.inr (.inr hq))))))) ?_
    rw [List.getElem?_set_ne (show x.N ≠ G.length by omega)]
    simp [kvE]
  · have e : (x.L :: Mx.own { x with ns := x.ns.set th G.length }) = (x.L :: x.own).set (x.ts.length + th + 5) G.length := by
      unfold Mx.own
      show _ = x.L :: x.M :: x.R :: x.TR :: x.N :: (x.ts ++ x.ns).set (x.ts.length + th) G.length
      rw [List.set_append_right _ _ (by omega)]
      simp
    show (x.L :: Mx.own { x with ns := x.ns.set th G.length }).Nodup
    rw [e]
    refine nodup_set h.nd fun z => ?_
    rcases List.mem_cons.mp z with z | z
    · have := h.ltL
      omega
    · have := lt _ z
      omega
  · unfold Mx.own at hj ⊢
    simp only [List.mem_cons, List.mem_append] at hj ⊢
    rcases hj with hj | hj | hj | hj | hj | hj
    · exact .inl (.inl hj)
    · exact .inl (.inr (.inl hj))
    · exact .inl (.inr (.inr (.inl hj)))
    · exact .inl (.inr (.inr (.inr (.inl hj))))
    · exact .inl (.inr (.inr (.inr (.inr (.inl hj)))))
    · rcases List.mem_or_eq_of_mem_set hj with hj | hj
      · exact .inl (.inr (.inr (.inr (.inr (.inr hj)))))
      · exact .inr (by omega)
end
section
variable {x : Mx} {m : Me} {G : Store} {c : Nat}
theorem MemAt.app (h : MemAt x m G) {J : Store} : MemAt x m (G ++ J) := h.stay fun j hj => by
  have : j < G.length := by
    rcases hj with rfl | hj
    · exact h.ltL
    · exact h.lt j hj
  rw [List.getElem?_append_left this]
def Me.tr (m : Me) (c : Nat) : List Val := m.trails[c]?.getD []
def Me.give (m : Me) (c : Nat) (v : Val) : Me := { m with trails := m.trails.set c (if m.last c = true then m.tr c ++ [v] else [v]) }
theorem s_give (h : MemAt x m G) (wf : m.Wf) (hc : c < m.cells) (hz : m.count ≤ 100000) {v : Val} : ∃ x' G', m_Memory_give [.obj x.M, .int (c : Int), v] G = .ok .non G' ∧ MemAt x' (m.give c v) G' ∧ Fr x G x' G' := by
  unfold m_Memory_give b_Memory_give
  rw [run_eq (by rfl)]
  obtain ⟨o, l, e1, e2, e3, e4, e5⟩ := tr_at h wf hc
  have etr : m.tr c = l := by unfold Me.tr; rw [e2]; rfl
  by_cases hl : m.last c = true
  · have hll := wf.tl l (List.mem_of_getElem? e2)
    have ap : setLst (.obj o) (fun l => if l.length < sizeLine then some (l ++ [v]) else none) G = some (G.set o (.lst (l ++ [v]))) := setLst_obj e4 (if_pos (small_lt (by omega)))
    obtain ⟨h1, h2⟩ := h.put (l := l ++ [v]) e1
    refine ⟨x, _, ?_, ?_, h2⟩
    · unfold eApp
      simp [mf_lay h, methV_1 h.lay, lastI h, hl, mf_tr h, e5, e4, ap]
    · unfold Me.give
      rw [if_pos hl, etr]
      exact h1
  · have hl' : m.last c = false := by simpa using hl
    have h' := h.app (J := [.lst [v]])
    have hct : c < x.ts.length := by rw [h.trs.len, wf.len]; exact hc
    obtain ⟨h1, h2⟩ := h.new (l := [v]) hct
    have p := putA_lst (G := G ++ [.lst [v]]) (i := x.TR) (k := c) (w := .obj G.length) h'.tr (by rw [List.length_map]; exact hct)
    have em : (x.ts.map Val.obj).set c (.obj G.length) = (x.ts.set c G.length).map Val.obj := by rw [List.map_set]
    rw [em] at p
    refine ⟨_, _, ?_, ?_, h2⟩
    · simp [mf_lay h, methV_1 h.lay, lastI h, hl', mf_tr h', p]
    · unfold Me.give
      rw [if_neg hl]
      exact h1
/-- how far a trail is shortened -/
def Me.cutN (m : Me) (c : Nat) (s : Int) : Nat := (if (if ((m.tr c).length : Int) - 1 < s then ((m.tr c).length : Int) - 1 else s) > 0 then (if ((m.tr c).length : Int) - 1 < s then ((m.tr c).length : Int) - 1 else s) else 0).toNat
def shD (c k : Nat) (d : Prs) : Prs := match lookA d (c : Int) with
  | some a => putL d (c : Int) (if a - (k : Int) > 0 then a - (k : Int) else 0)
  | none => d
def Me.shorten (m : Me) (c : Nat) (s : Int) : Me := { m with trails := m.trails.set c ((m.tr c).drop (m.cutN c s)), notes := m.notes.map (shD c (m.cutN c s)) }
theorem notes_loop {k : Nat} {r0 : Val} (hdl : ∀ d ∈ m.notes, d.length ≤ 5000) : ∀ (fuel : List Val) (t : Nat) (o3 : Option Val) (m1 : Me) (G : Store), MemAt x m1 G → fuel.length + t = m1.notes.length → m1.notes = (m.notes.take t).map (shD c k) ++ m.notes.drop t →
    ∃ p3 G', forOb (.nm 3) b_Memory_shorten_l1 x.N fuel t [some r0, some (.int (c : Int)), some (.int (k : Int)), o3] G = .next [some r0, some (.int (c : Int)), some (.int (k : Int)), p3] G' ∧ MemAt x { m1 with notes := m.notes.map (shD c k) } G' ∧ Fr x G x G'
  | [], t, o3, m1, G, h, hf, hn => by
    simp at hf
    have hl : x.ns.length ≤ t := by rw [h.nos.len]; omega
    have e : m.notes.map (shD c k) = m1.notes := by
      have h2 := congrArg List.length hn
      rw [List.length_append, List.length_map, List.length_take, List.length_drop] at h2
      have h3 : m.notes.length ≤ t := by omega
      rw [hn, List.take_of_length_le h3, List.drop_of_length_le h3, List.append_nil]
    refine ⟨o3, G, ?_, ?_, Fr.refl⟩
    · unfold forOb
      simp only [h.no, List.length_map]
      rw [if_pos hl]
    · rw [e]
      exact h
  | y :: fuel, t, o3, m1, G, h, hf, hn => by
    simp only [List.length_cons] at hf
    have htn : t < m1.notes.length := by omega
    have hmn : m1.notes.length = m.notes.length := by
      have h2 := congrArg List.length hn
      rw [List.length_append, List.length_map, List.length_take, List.length_drop] at h2
      omega
    obtain ⟨o, e1, e2⟩ := h.nos.get (List.getElem?_eq_getElem htn)
    have e3 : m1.notes[t] = m.notes[t]'(by omega) := by
      have : m1.notes[t]? = m.notes[t]? := by
        rw [hn, List.getElem?_append_right (by simp; omega)]
        simp
        congr 1
        omega
      rw [List.getElem?_eq_getElem htn, List.getElem?_eq_getElem (by omega)] at this
      exact Option.some.inj this
    have hd := hdl _ (List.getElem_mem (show t < m.notes.length by omega))
    rw [← e3] at hd
    have hN : (x.ns.map Val.obj)[t]? = some (.obj o) := by rw [List.getElem?_map, e1]; rfl
    have step : ∀ (m2 : Me) (G2 : Store), MemAt x m2 G2 → Fr x G x G2 → m2 = { m1 with notes := m1.notes.set t (shD c k m1.notes[t]) } → b_Memory_shorten_l1 [some r0, some (.int (c : Int)), some (.int (k : Int)), some (.obj o)] G = .next [some r0, some (.int (c : Int)), some (.int (k : Int)), some (.obj o)] G2 →
        ∃ p3 G', forOb (.nm 3) b_Memory_shorten_l1 x.N (y :: fuel) t [some r0, some (.int (c : Int)), some (.int (k : Int)), o3] G = .next [some r0, some (.int (c : Int)), some (.int (k : Int)), p3] G' ∧ MemAt x { m1 with notes := m.notes.map (shD c k) } G' ∧ Fr x G x G' := by
      intro m2 G2 hm2 hf2 em2 eb
      have hn2 : m2.notes = (m.notes.take (t + 1)).map (shD c k) ++ m.notes.drop (t + 1) := by
        rw [em2]
        show m1.notes.set t (shD c k m1.notes[t]) = _
        rw [e3]
        have ht' : t < m.notes.length := by omega
        apply List.ext_getElem?
        intro i
        rw [List.getElem?_set]
        by_cases hi : t = i
        · subst hi
          rw [if_pos rfl, if_pos htn, List.getElem?_append_left (by simp; omega), List.getElem?_map, List.getElem?_take_of_lt (by omega), List.getElem?_eq_getElem ht']
          rfl
        · rw [if_neg hi, hn]
          by_cases hi2 : i < t
          · rw [List.getElem?_append_left (by simp; omega), List.getElem?_append_left (by simp; omega), List.getElem?_map, List.getElem?_map, List.getElem?_take_of_lt hi2, List.getElem?_take_of_lt (by omega)]
          · rw [List.getElem?_append_right (by simp; omega), List.getElem?_append_right (by simp; omega), List.getElem?_drop, List.getElem?_drop]
            congr 1
            simp
            omega
      obtain ⟨p3, G', ih, z1, z2⟩ := notes_loop hdl fuel (t + 1) (some (.obj o)) m2 G2 hm2 (by rw [em2]; show fuel.length + (t + 1) = (m1.notes.set t _).length; rw [List.length_set]; omega) hn2
      refine ⟨p3, G', ?_, ?_, hf2.trans z2⟩
      · unfold forOb
        simp only [h.no, hN]
        unfold turn1
        simp only [pt_nm, List.set_cons_succ, List.set_cons_zero]
        rw [eb]
        exact ih
      · rw [em2] at z1
        exact z1
    have hi := fInA_dobj (neg := false) (k := (c : Int)) e2
    rw [look_kvE] at hi
    cases e4 : lookA m1.notes[t] (c : Int) with
    | none =>
      rw [e4] at hi
      refine step m1 G h Fr.refl ?_ ?_
      · have : shD c k m1.notes[t] = m1.notes[t] := by unfold shD; rw [e4]
        rw [this, List.set_getElem_self]
      · unfold b_Memory_shorten_l1
        simp at hi
        simp [hi]
    | some a =>
      rw [e4] at hi
      have es : shD c k m1.notes[t] = putL m1.notes[t] (c : Int) (if a - (k : Int) > 0 then a - (k : Int) else 0) := by unfold shD; rw [e4]
      obtain ⟨h1, h2⟩ := h.note (d := putL m1.notes[t] (c : Int) (if a - (k : Int) > 0 then a - (k : Int) else 0)) e1
      refine step _ _ h1 h2 (by rw [es]) ?_
      have x1 : fIx (.obj o) (.int (c : Int)) G = .ok (.int a) G := fIx_dobj e2 (by rw [look_kvE, e4]; rfl)
      have p := putA_dic (k := (c : Int)) (w := .int (if a - (k : Int) > 0 then a - (k : Int) else 0)) e2 (by rw [length_kvE]; omega)
      rw [put_kvE (e := Val.int)] at p
      unfold b_Memory_shorten_l1
      simp at hi
      simp only [gt_iff_lt, Int.sub_pos] at p
      simp [hi, x1, p]
end
section
variable {x : Mx} {m : Me} {G : Store} {c : Nat}
theorem s_shorten (h : MemAt x m G) (wf : m.Wf) (hc : c < m.cells) (hd : ∀ d ∈ m.notes, d.length ≤ 5000) {s : Int} : ∃ x' G', m_Memory_shorten [.obj x.M, .int (c : Int), .int s] G = .ok .non G' ∧ MemAt x' (m.shorten c s) G' ∧ Fr x G x' G' := by
  unfold m_Memory_shorten b_Memory_shorten
  rw [run_eq (by rfl)]
  obtain ⟨o, l, e1, e2, e3, e4, e5⟩ := tr_at h wf hc
  have etr : m.tr c = l := by unfold Me.tr; rw [e2]; rfl
  have ln := bLen_obj e4
  have hk : ((m.cutN c s : Nat) : Int) = if (if (l.length : Int) - 1 < s then (l.length : Int) - 1 else s) > 0 then (if (l.length : Int) - 1 < s then (l.length : Int) - 1 else s) else 0 := by
    unfold Me.cutN
    rw [etr]
    split <;> omega
  have hct : c < x.ts.length := by rw [h.trs.len, wf.len]; exact hc
  have sl : fSl false (.obj o) (some ((m.cutN c s : Nat) : Int)) none G = .ok (.obj G.length) (G ++ [.lst (l.drop (m.cutN c s))]) := by
    unfold fSl
    simp only [lst_obj e4, cut_drop, mkL_f]
  have h' := h.app (J := [.lst (l.drop (m.cutN c s))])
  obtain ⟨h1, h2⟩ := h.new (l := l.drop (m.cutN c s)) hct
  have p := putA_lst (G := G ++ [.lst (l.drop (m.cutN c s))]) (i := x.TR) (k := c) (w := .obj G.length) h'.tr (by rw [List.length_map]; exact hct)
  have em : (x.ts.map Val.obj).set c (.obj G.length) = (x.ts.set c G.length).map Val.obj := by rw [List.map_set]
  rw [em] at p
  obtain ⟨p3, G', e6, z1, z2⟩ := notes_loop (x := { x with ts := x.ts.set c G.length }) (m := { m with trails := m.trails.set c (l.drop (m.cutN c s)) }) (c := c) (k := m.cutN c s) (r0 := .obj x.M) hd (x.ns.map Val.obj) 0 none _ _ h1 (by simp [h.nos.len]) (by simp)
  refine ⟨_, G', ?_, ?_, h2.trans z2⟩
  · have hk' := hk
    simp only [gt_iff_lt] at hk'
    simp [mf_tr h, e5, ln]
    rw [← hk']
    simp only [e_fld, sl, p, mf_tr h', e_var]
    have f4 := mf_no h1
    have f5 := h1.no
    dsimp only at f4 f5 e6
    simp [mf_tr h, e5, sl, mf_tr h', p, f4, f5, e6, -List.map_set]
  · unfold Me.shorten
    rw [etr]
    exact z1
end
section
variable {x : Mx} {m : Me} {G : Store} {c : Nat}
theorem s_drift (h : MemAt x m G) (wf : m.Wf) (hc : c < m.cells) (hl : m.last c = true) (hd : ∀ d ∈ m.notes, d.length ≤ 5000) {s : Int} (hs : 0 ≤ s) : ∃ x' G', m_Memory_drift_R [.obj x.M, .int (c : Int), .int s] G = .ok .non G' ∧ MemAt x' (m.shorten c s) G' ∧ Fr x G x' G' := by
  unfold m_Memory_drift_R b_Memory_drift_R
  rw [run_eq (by rfl)]
  obtain ⟨x', G', e, z1, z2⟩ := s_shorten h wf hc hd (s := s)
  have h1 : ¬ s < 0 := by omega
  exact ⟨x', G', by simp [methV_1 h.mem, s_check_lastingR h wf hc hl, isTy, h1, e], z1, z2⟩
end
section
variable {x : Mx} {m : Me} {G : Store} {c : Nat}
/-- requests -/
inductive Rq where
  | read (c : Nat) | write (c : Nat) (v : Val) | swap (c : Nat) (a b : Val) | decide (c : Nat) (v : Val) | flush (c : Nat) | fence
def Rq.val : Rq → Val
  | .read c => .tup [.str 2, .int (c : Int)]
  | .write c v => .tup [.str 3, .int (c : Int), v]
  | .swap c a b => .tup [.str 4, .int (c : Int), a, b]
  | .decide c v => .tup [.str 5, .int (c : Int), v]
  | .flush c => .tup [.str 6, .int (c : Int)]
  | .fence => .tup [.str 7]
def Rq.ok (m : Me) : Rq → Prop
  | .read c => c < m.cells
  | .write c v => c < m.cells ∧ okV v
  | .swap c a b => c < m.cells ∧ okV a ∧ okV b
  | .decide c v => c < m.cells ∧ okV v ∧ ∃ d, toD [] 39 v = some d
  | .flush c => c < m.cells ∧ m.last c = true
  | .fence => True
/-- equal as data -/
def sameV (v u : Val) : Bool := match dataOf v, dataOf u with
  | some d, some e => PyData.eqv d e
  | _, _ => false
theorem fNe_ok {v u : Val} (hv : okV v) (hu : okV u) : fNeA v u G = .ok (.bl (!sameV v u)) G := by
  obtain ⟨h1, d, h2⟩ := hv
  obtain ⟨h3, e, h4⟩ := hu
  rw [fNeA_dat h1 h3 h2 h4]
  unfold sameV
  rw [h2, h4]
theorem ok_int {i : Int} : okV (.int i) := ⟨rfl, _, rfl⟩
theorem ok_non : okV .non := ⟨rfl, _, rfl⟩
theorem s_check_request (h : MemAt x m G) (wf : m.Wf) {q : Rq} (hq : q.ok m) {th : Nat} (ht : th < m.t) : m_Memory_check_request_R [.obj x.M, .int (th : Int), q.val] G = .ok .non G := by
  unfold m_Memory_check_request_R b_Memory_check_request_R
  rw [run_eq (by rfl)]
  have h1 : (th : Int) ≤ (m.t : Int) - 1 := by omega
  have f1 := lay_t h.lay
  cases q with
  | read c =>
    simp only [Rq.val]
    simp [mf_lay h, f1, s_is_within, h1, isTy, List.lookup, methV_1 h.mem, s_check_cellR h wf (show c < m.cells from hq)]
  | write c v =>
    simp only [Rq.val]
    simp [mf_lay h, f1, s_is_within, h1, isTy, List.lookup, methV_1 h.mem, s_check_cellR h wf hq.1]
  | swap c a b =>
    simp only [Rq.val]
    simp [mf_lay h, f1, s_is_within, h1, isTy, List.lookup, methV_1 h.mem, s_check_cellR h wf hq.1]
  | decide c v =>
    simp only [Rq.val]
    simp [mf_lay h, f1, s_is_within, h1, isTy, List.lookup, methV_1 h.mem, s_check_cellR h wf hq.1]
  | flush c =>
    simp only [Rq.val]
    simp [mf_lay h, f1, s_is_within, h1, isTy, List.lookup, methV_1 h.mem, s_check_lastingR h wf hq.1 hq.2]
  | fence =>
    simp only [Rq.val]
    simp [mf_lay h, f1, s_is_within, h1, isTy, List.lookup]
def Me.note (m : Me) (th c : Nat) : Me := { m with notes := m.notes.set th (putL (m.notes[th]?.getD []) (c : Int) (((m.tr c).length : Int) - 1)) }
/-- what a request gives, but a fence -/
def Me.res (m : Me) (th : Nat) : Rq → Val × Me
  | .read c => (m.cur c, m)
  | .write c v => (.non, m.give c v)
  | .swap c a b => if sameV (m.cur c) a = true then (.bl true, m.give c b) else (.bl false, m)
  | .decide c v => if sameV (m.cur c) (.int 0) = true then (.bl true, m.give c (.tup [v, .int (m.count : Int)])) else (.bl false, m)
  | .flush c => (.non, m.note th c)
  | .fence => (.non, m)
theorem s_result (h : MemAt x m G) (wf : m.Wf) (hz : m.count ≤ 100000) {q : Rq} (hq : q.ok m) {th : Nat} (ht : th < m.t) (hnd : ∀ d ∈ m.notes, d.length ≤ 5000) (nf : q ≠ .fence) : ∃ x' G', m_Memory_result [.obj x.M, .int (th : Int), q.val] G = .ok (m.res th q).1 G' ∧ MemAt x' (m.res th q).2 G' ∧ Fr x G x' G' := by
  unfold m_Memory_result b_Memory_result
  rw [run_eq (by rfl)]
  have n1 : ∀ G, fIx (.obj x.TR) (.int 1) G = fIx (.obj x.TR) (.int 1) G := fun _ => rfl
  cases q with
  | fence => exact absurd rfl nf
  | read c =>
    obtain ⟨o, l, e1, e2, e3, e4, e5⟩ := tr_at h wf (show c < m.cells from hq)
    obtain ⟨e6, _⟩ := cur_at wf (show c < m.cells from hq) e2
    refine ⟨x, G, ?_, h, Fr.refl⟩
    simp only [Rq.val, Me.res]
    simp [mf_tr h, e5, fIx_last e4 e6]
  | write c v =>
    obtain ⟨o, l, e1, e2, e3, e4, e5⟩ := tr_at h wf hq.1
    obtain ⟨e6, _⟩ := cur_at wf hq.1 e2
    obtain ⟨x', G', g, z1, z2⟩ := s_give h wf hq.1 hz (v := v)
    refine ⟨x', G', ?_, z1, z2⟩
    simp only [Rq.val, Me.res]
    simp [mf_tr h, e5, fIx_last e4 e6, methV_1 h.mem, g]
  | swap c a b =>
    obtain ⟨o, l, e1, e2, e3, e4, e5⟩ := tr_at h wf hq.1
    obtain ⟨e6, e7⟩ := cur_at wf hq.1 e2
    have ne := fNe_ok (G := G) e7 hq.2.1
    obtain ⟨x', G', g, z1, z2⟩ := s_give h wf hq.1 hz (v := b)
    by_cases hs : sameV (m.cur c) a = true
    · refine ⟨x', G', ?_, by simp only [Me.res, if_pos hs]; exact z1, z2⟩
      simp only [Rq.val, Me.res, if_pos hs]
      simp [mf_tr h, e5, fIx_last e4 e6, ne, hs, methV_1 h.mem, g]
    · refine ⟨x, G, ?_, by simp only [Me.res, if_neg hs]; exact h, Fr.refl⟩
      simp only [Rq.val, Me.res, if_neg hs]
      simp [mf_tr h, e5, fIx_last e4 e6, ne, hs]
  | decide c v =>
    obtain ⟨o, l, e1, e2, e3, e4, e5⟩ := tr_at h wf hq.1
    obtain ⟨e6, e7⟩ := cur_at wf hq.1 e2
    have ne := fNe_ok (G := G) e7 (ok_int (i := 0))
    obtain ⟨x', G', g, z1, z2⟩ := s_give h wf hq.1 hz (v := .tup [v, .int (m.count : Int)])
    by_cases hs : sameV (m.cur c) (.int 0) = true
    · refine ⟨x', G', ?_, by simp only [Me.res, if_pos hs]; exact z1, z2⟩
      simp only [Rq.val, Me.res, if_pos hs]
      simp [mf_tr h, e5, fIx_last e4 e6, ne, hs, methV_1 h.mem, mf_count h, g]
    · refine ⟨x, G, ?_, by simp only [Me.res, if_neg hs]; exact h, Fr.refl⟩
      simp only [Rq.val, Me.res, if_neg hs]
      simp [mf_tr h, e5, fIx_last e4 e6, ne, hs]
  | flush c =>
    obtain ⟨o, l, e1, e2, e3, e4, e5⟩ := tr_at h wf hq.1
    have etr : m.tr c = l := by unfold Me.tr; rw [e2]; rfl
    have ln := bLen_obj e4
    have htn : th < m.notes.length := by rw [wf.nl]; exact ht
    obtain ⟨p, f1, f2⟩ := h.nos.get (List.getElem?_eq_getElem htn)
    have hd := hnd _ (List.getElem_mem htn)
    have fx : fIx (.obj x.N) (.int (th : Int)) G = .ok (.obj p) G := fIx_lobj h.no (by rw [List.getElem?_map, f1]; rfl)
    have pt := putA_dic (k := (c : Int)) (w := .int ((l.length : Int) - 1)) f2 (by rw [length_kvE]; omega)
    rw [put_kvE (e := Val.int)] at pt
    obtain ⟨z1, z2⟩ := h.note (d := putL m.notes[th] (c : Int) ((l.length : Int) - 1)) f1
    refine ⟨x, _, ?_, ?_, z2⟩
    · simp only [Rq.val, Me.res]
      simp [mf_tr h, e5, ln, mf_no h, fx, pt]
    · simp only [Me.res]
      unfold Me.note
      rw [etr, List.getElem?_eq_getElem htn]
      exact z1
end
section
variable {x : Mx} {m : Me} {G : Store} {c : Nat}
theorem MemAt.setCount (h : MemAt x m G) (k : Nat) : MemAt x { m with count := k } (G.set x.M (Ob.ins 1 [.obj x.L, .int (k : Int), .obj x.R, .obj x.TR, .obj x.N])) ∧ Fr x G x (G.set x.M (Ob.ins 1 [.obj x.L, .int (k : Int), .obj x.R, .obj x.TR, .obj x.N])) := by
  have n := h.ne
  have hM : x.M < G.length := (List.getElem?_eq_some_iff.mp h.mem).1
  have k1 : ∀ j, j ≠ x.M → (G.set x.M (Ob.ins 1 [.obj x.L, .int (k : Int), .obj x.R, .obj x.TR, .obj x.N]))[j]? = G[j]? := fun j hj => List.getElem?_set_ne (Ne.symm hj)
  refine ⟨⟨?_, ?_, ?_, ?_, ?_, ?_, ?_, h.nd⟩, rfl, rfl, fun j h1 h2 => k1 j fun z => h2 ?_, by rw [List.length_set]; exact Nat.le_refl _, fun j hj => .inl hj⟩
  · rw [List.getElem?_set_self hM]
  · show _ = _
    rw [k1 _ n.LM]; exact h.lay
  · rw [k1 _ (Ne.symm n.MR)]; exact h.rows
  · rw [k1 _ (Ne.symm n.MT)]; exact h.tr
  · exact h.trs.stay fun q hq => k1 q fun z => n.Mt (z ▸ hq)
  · rw [k1 _ (Ne.symm n.MN)]; exact h.no
  · exact h.nos.stay fun q hq => k1 q fun z => n.Mn (z ▸ hq)
  · unfold Mx.own
    rw [z]
    simp
theorem MemAt.setRows (h : MemAt x m G) (r : List Val) : MemAt x { m with rows := r } (G.set x.R (Ob.lst r)) ∧ Fr x G x (G.set x.R (Ob.lst r)) := by
  have n := h.ne
  have hM : x.R < G.length := (List.getElem?_eq_some_iff.mp h.rows).1
  have k1 : ∀ j, j ≠ x.R → (G.set x.R (Ob.lst r))[j]? = G[j]? := fun j hj => List.getElem?_set_ne (Ne.symm hj)
  refine ⟨⟨?_, ?_, ?_, ?_, ?_, ?_, ?_, h.nd⟩, rfl, rfl, fun j h1 h2 => k1 j fun z => h2 ?_, by rw [List.length_set]; exact Nat.le_refl _, fun j hj => .inl hj⟩
  · rw [k1 _ n.MR]; exact h.mem
  · show _ = _
    rw [k1 _ n.LR]; exact h.lay
  · rw [List.getElem?_set_self hM]
  · rw [k1 _ (Ne.symm n.RT)]; exact h.tr
  · exact h.trs.stay fun q hq => k1 q fun z => n.Rt (z ▸ hq)
  · rw [k1 _ (Ne.symm n.RN)]; exact h.no
  · exact h.nos.stay fun q hq => k1 q fun z => n.Rn (z ▸ hq)
  · unfold Mx.own
    rw [z]
    simp
/-- an access is counted -/
def Me.tick (m : Me) (th : Nat) (q : Rq) : Me := { m with count := m.count + 1, rows := m.rows ++ [.tup [.int ((m.count : Int) + 1), .int (th : Int), q.val]] }
def Me.acc (m : Me) (th : Nat) (q : Rq) : Val × Me := (.tup [((m.tick th q).res th q).1, .int ((m.count : Int) + 1)], ((m.tick th q).res th q).2)
theorem wf_tick (wf : m.Wf) {th : Nat} {q : Rq} : (m.tick th q).Wf := by
  refine ⟨wf.len, wf.ne, wf.val, fun l hl => Nat.le_succ_of_le (wf.tl l hl), wf.nl, wf.nk, ?_, wf.nc, wf.cb⟩
  show (m.rows ++ _).length ≤ m.count + 1
  rw [List.length_append]
  exact Nat.succ_le_succ wf.rl
theorem wf_set (wf : m.Wf) {l : List Val} (h1 : l ≠ []) (h2 : ∀ v ∈ l, okV v) (h3 : l.length ≤ m.count + 1) : ({ m with trails := m.trails.set c l } : Me).Wf := by
  refine ⟨?_, fun k hk => ?_, fun k hk => ?_, fun k hk => ?_, wf.nl, wf.nk, wf.rl, wf.nc, wf.cb⟩
  · show (m.trails.set c l).length = m.cells
    rw [List.length_set]
    exact wf.len
  · rcases List.mem_or_eq_of_mem_set hk with hk | rfl
    · exact wf.ne k hk
    · exact h1
  · rcases List.mem_or_eq_of_mem_set hk with hk | rfl
    · exact wf.val k hk
    · exact h2
  · rcases List.mem_or_eq_of_mem_set hk with hk | rfl
    · exact wf.tl k hk
    · exact h3
theorem tr_len (wf : m.Wf) (hs : ∀ l ∈ m.trails, l.length ≤ m.count) : (m.tr c).length ≤ m.count := by
  unfold Me.tr
  cases e : m.trails[c]? with
  | none => simp
  | some l => exact hs l (List.mem_of_getElem? e)
theorem tr_val (wf : m.Wf) : ∀ v ∈ m.tr c, okV v := by
  intro v hv
  unfold Me.tr at hv
  cases e : m.trails[c]? with
  | none => rw [e] at hv; cases hv
  | some l =>
    rw [e] at hv
    exact wf.val l (List.mem_of_getElem? e) v hv
theorem wf_give (wf : m.Wf) (hs : ∀ l ∈ m.trails, l.length ≤ m.count) {v : Val} (hv : okV v) : (m.give c v).Wf := by
  have := tr_len (c := c) wf hs
  unfold Me.give
  split
  · exact wf_set wf (by simp) (fun w hw => by
      rcases List.mem_append.mp hw with hw | hw
      · exact tr_val wf w hw
      · rw [List.mem_singleton.mp hw]
        exact hv) (by rw [List.length_append]; exact Nat.succ_le_succ this)
  · exact wf_set wf (by simp) (fun w hw => by rw [List.mem_singleton.mp hw]; exact hv) (by simp)
theorem keys_shD {k : Nat} {d : Prs} : Keys (shD c k d) = Keys d := by
  unfold shD
  cases e : lookA d (c : Int) with
  | none => rfl
  | some a =>
    simp only
    rw [keys_putL, if_pos]
    exact Decidable.byContradiction fun h => by rw [lookA_none.mpr h] at e; cases e
theorem wf_shorten (wf : m.Wf) (hc : c < m.cells) {s : Int} : (m.shorten c s).Wf := by
  obtain ⟨l, hl⟩ : ∃ l, m.trails[c]? = some l := ⟨_, List.getElem?_eq_getElem (by rw [wf.len]; exact hc)⟩
  have etr : m.tr c = l := by unfold Me.tr; rw [hl]; rfl
  have hm := List.mem_of_getElem? hl
  have hne := wf.ne l hm
  have hlen : 0 < l.length := List.length_pos_iff.mpr hne
  have hcut : m.cutN c s < l.length := by
    unfold Me.cutN
    rw [etr]
    split <;> omega
  have w1 := wf_set (c := c) wf (l := l.drop (m.cutN c s)) (fun z => by
    have := congrArg List.length z
    rw [List.length_drop] at this
    simp at this
    omega) (fun v hv => wf.val l hm v (List.mem_of_mem_drop hv)) (by
    have := wf.tl l hm
    rw [List.length_drop]
    omega)
  refine ⟨?_, ?_, ?_, ?_, ?_, fun d hd => ?_, wf.rl, fun d hd => ?_, wf.cb⟩
  · have := w1.len
    unfold Me.shorten
    rw [etr]
    exact this
  · unfold Me.shorten
    rw [etr]
    exact w1.ne
  · unfold Me.shorten
    rw [etr]
    exact w1.val
  · unfold Me.shorten
    rw [etr]
    exact w1.tl
  · show (m.notes.map _).length = m.t
    rw [List.length_map]
    exact wf.nl
  · have hd' : d ∈ m.notes.map (shD c (m.cutN c s)) := hd
    obtain ⟨e, he, rfl⟩ := List.mem_map.mp hd'
    unfold shD
    split
    · exact nodup_putL (wf.nk e he)
    · exact wf.nk e he
  · have hd' : d ∈ m.notes.map (shD c (m.cutN c s)) := hd
    obtain ⟨e, he, rfl⟩ := List.mem_map.mp hd'
    rw [keys_shD]
    exact wf.nc e he
theorem wf_res (wf : m.Wf) (hs : ∀ l ∈ m.trails, l.length ≤ m.count) {q : Rq} {th : Nat} (hq : q.ok m) : (m.res th q).2.Wf := by
  cases q with
  | read c => exact wf
  | write c v => exact wf_give wf hs hq.2
  | swap c a b =>
    simp only [Me.res]
    split
    · exact wf_give wf hs hq.2.2
    · exact wf
  | decide c v =>
    simp only [Me.res]
    split
    · obtain ⟨_, ⟨h1, _⟩, d, hd⟩ := hq
      refine wf_give wf hs ⟨by simp [h1], .tuple [d, .int m.count], ?_⟩
      show (optAll (toD [] 39) [v, .int (m.count : Int)]).map PyData.tuple = _
      unfold optAll optAll optAll
      rw [hd]
      rfl
    · exact wf
  | flush c =>
    refine ⟨wf.len, wf.ne, wf.val, wf.tl, ?_, fun d hd => ?_, wf.rl, fun d hd => ?_, wf.cb⟩
    · show (m.notes.set _ _).length = m.t
      rw [List.length_set]
      exact wf.nl
    · have hd' : d ∈ m.notes.set th (putL (m.notes[th]?.getD []) (c : Int) (((m.tr c).length : Int) - 1)) := hd
      rcases List.mem_or_eq_of_mem_set hd' with h | rfl
      · exact wf.nk d h
      · refine nodup_putL ?_
        cases e : m.notes[th]? with
        | none => exact List.nodup_nil
        | some d => exact wf.nk d (List.mem_of_getElem? e)
    · have hd' : d ∈ m.notes.set th (putL (m.notes[th]?.getD []) (c : Int) (((m.tr c).length : Int) - 1)) := hd
      rcases List.mem_or_eq_of_mem_set hd' with h | rfl
      · exact wf.nc d h
      · intro k hk
        rw [keys_putL] at hk
        have old : ∀ k ∈ Keys (m.notes[th]?.getD []), ∃ c : Nat, k = (c : Int) ∧ c < m.cells ∧ m.last c = true := fun k hk => by
          cases e : m.notes[th]? with
          | none => rw [e] at hk; cases hk
          | some d =>
            rw [e] at hk
            exact wf.nc d (List.mem_of_getElem? e) k hk
        split at hk
        · exact old k hk
        · rcases List.mem_append.mp hk with hk | hk
          · exact old k hk
          · rw [List.mem_singleton] at hk
            exact ⟨c, hk, hq.1, hq.2⟩
  | fence => exact wf
theorem wf_acc (wf : m.Wf) {q : Rq} {th : Nat} (hq : q.ok m) : (m.acc th q).2.Wf := wf_res (wf_tick wf) (fun l hl => wf.tl l hl) (by cases q <;> exact hq)
theorem s_access (h : MemAt x m G) (wf : m.Wf) (hz : m.count < 100000) {q : Rq} (hq : q.ok m) {th : Nat} (ht : th < m.t) (hnd : ∀ d ∈ m.notes, d.length ≤ 5000) (nf : q ≠ .fence) : ∃ x' G', m_Memory_access_R [.obj x.M, .int (th : Int), q.val] G = .ok (m.acc th q).1 G' ∧ MemAt x' (m.acc th q).2 G' ∧ Fr x G x' G' := by
  unfold m_Memory_access_R b_Memory_access_R
  rw [run_eq (by rfl)]
  have e1 := s_check_request h wf hq ht
  obtain ⟨h1, f1⟩ := h.setCount (m.count + 1)
  have a1 : ∀ ρ : Env1, augV 1 1 (.obj x.M) (eC (.int 1)) ρ G = .next ρ (G.set x.M (Ob.ins 1 [.obj x.L, .int ((m.count : Int) + 1), .obj x.R, .obj x.TR, .obj x.N])) := fun ρ => augV_at h.mem rfl rfl
  have ec : ((m.count + 1 : Nat) : Int) = (m.count : Int) + 1 := by simp
  rw [ec] at h1 f1
  generalize hG1 : G.set x.M (Ob.ins 1 [.obj x.L, .int ((m.count : Int) + 1), .obj x.R, .obj x.TR, .obj x.N]) = G1 at h1 f1 a1
  have c1 := mf_count h1
  simp only [ec] at c1
  obtain ⟨h2, f2⟩ := h1.setRows (m.rows ++ [.tup [.int ((m.count : Int) + 1), .int (th : Int), q.val]])
  have ap : setLst (.obj x.R) (fun l => if l.length < sizeLine then some (l ++ [.tup [.int ((m.count : Int) + 1), .int (th : Int), q.val]]) else none) G1 = some (G1.set x.R (Ob.lst (m.rows ++ [.tup [.int ((m.count : Int) + 1), .int (th : Int), q.val]]))) := setLst_obj h1.rows (if_pos (small_lt (by
    have := wf.rl
    show m.rows.length ≤ 1000000
    omega)))
  generalize hG2 : G1.set x.R (Ob.lst (m.rows ++ [.tup [.int ((m.count : Int) + 1), .int (th : Int), q.val]])) = G2 at h2 f2 ap
  have hq2 : q.ok (m.tick th q) := by cases q <;> exact hq
  obtain ⟨x', G', e2, h3, f3⟩ := s_result (m := m.tick th q) h2 (wf_tick wf) (by show m.count + 1 ≤ 100000; omega) hq2 ht hnd nf
  have c3 := mf_count h3
  have ecnt : (((m.tick th q).res th q).2.count : Int) = (m.count : Int) + 1 := by
    have : ((m.tick th q).res th q).2.count = m.count + 1 := by
      cases q <;> simp only [Me.res] <;> (try split) <;> rfl
    rw [this, ec]
  rw [ecnt, f3.M] at c3
  refine ⟨x', G', ?_, h3, (f1.trans f2).trans f3⟩
  unfold eApp
  simp [methV_1 h.mem, e1, a1, mf_rows h1, h1.rows, c1, ap, methV_1 h2.mem, e2, c3, Me.acc]
end
/-! ### making -/
section
variable {G : Store} {c : Nat}
theorem set_new {o o' : Ob} {J : Store} : (G ++ o :: J).set G.length o' = G ++ o' :: J := by
  rw [List.set_append_right _ _ (Nat.le_refl _), Nat.sub_self]
  rfl
theorem get_new {o : Ob} {J : Store} : (G ++ o :: J)[G.length]? = some o := by simp
theorem s_lay_init {t w r : Int} (t1 : 1 ≤ t) (t3 : t ≤ 3) (w1 : 1 ≤ w) (w4 : w ≤ 4) (r4 : 4 ≤ r) (r2 : r ≤ 200) : m_Layout_init [.obj G.length, .int t, .int w, .int r] (G ++ [.ins 0 []]) = .ok .non (G ++ [.ins 0 [.int t, .int w, .int r]]) := by
  unfold m_Layout_init b_Layout_init
  rw [run_eq (by rfl)]
  have f1 : setFld 0 0 (.obj G.length) (.int t) (G ++ [.ins 0 []]) = some (G ++ [.ins 0 [.int t]]) := by
    rw [setFld_at get_new (by simp), set_new]
    rfl
  have f2 : setFld 0 1 (.obj G.length) (.int w) (G ++ [.ins 0 [.int t]]) = some (G ++ [.ins 0 [.int t, .int w]]) := by
    rw [setFld_at get_new (by simp), set_new]
    rfl
  have f3 : setFld 0 2 (.obj G.length) (.int r) (G ++ [.ins 0 [.int t, .int w]]) = some (G ++ [.ins 0 [.int t, .int w, .int r]]) := by
    rw [setFld_at get_new (by simp), set_new]
    rfl
  simp [s_is_within, t1, t3, w1, w4, r4, r2, f1, f2, f3]
theorem lcF_alloc {p : Pt} {te : EM} {ρ : Env1} {o : Ob} : ∀ (l : List Val) (G : Store), (∀ v ∈ l, ∀ G, ∃ ρ2, ptSet G p v ρ = some ρ2 ∧ te ρ2 G = .ok (.obj G.length) (G ++ [o])) → lcF p tTrue te ρ l G = .ok ((List.range' G.length l.length).map Val.obj) (G ++ List.replicate l.length o)
  | [], G, _ => by
    unfold lcF
    simp
  | v :: l, G, h => by
    obtain ⟨ρ2, e1, e2⟩ := h v (List.mem_cons_self ..) G
    have ih := lcF_alloc l (G ++ [o]) fun w hw => h w (List.mem_cons_of_mem _ hw)
    unfold lcF lcFT
    simp only [e1, tTrue_ok, bind_ok, if_true, e2, ih]
    simp [List.range'_succ, List.replicate_succ]
theorem objs_rep {α : Type} {e : α → Ob} {a : α} : ∀ (n : Nat) (G J : Store), Objs e (G ++ List.replicate n (e a) ++ J) (List.range' G.length n) (List.replicate n a)
  | 0, G, J => trivial
  | n + 1, G, J => by
    have ih := objs_rep (e := e) (a := a) n (G ++ [e a]) J
    rw [List.length_append, List.length_singleton] at ih
    rw [List.range'_succ, List.replicate_succ]
    refine ⟨by simp [List.replicate_succ], ?_⟩
    have e1 : G ++ List.replicate (n + 1) (e a) ++ J = G ++ [e a] ++ List.replicate n (e a) ++ J := by simp [List.replicate_succ]
    rw [List.replicate_succ] at e1
    rw [e1]
    exact ih
/-- the trails alone -/
structure TrAt (TR B : Nat) (ts : List Nat) (trails : List (List Val)) (G : Store) : Prop where
  tr : G[TR]? = some (.lst (ts.map .obj))
  trs : Objs lsO G ts trails
  nd : ts.Nodup
  lo : ∀ j ∈ ts, B ≤ j ∧ j ≠ TR
  bt : B ≤ TR
theorem TrAt.new {TR B : Nat} {ts : List Nat} {trails : List (List Val)} (h : TrAt TR B ts trails G) {l : List Val} (hc : c < ts.length) :
    TrAt TR B (ts.set c G.length) (trails.set c l) ((G ++ [Ob.lst l]).set TR (Ob.lst ((ts.set c G.length).map Val.obj))) ∧ (∀ j, j ≠ TR → j < G.length → ((G ++ [Ob.lst l]).set TR (Ob.lst ((ts.set c G.length).map Val.obj)))[j]? = G[j]?) ∧ ((G ++ [Ob.lst l]).set TR (Ob.lst ((ts.set c G.length).map Val.obj))).length = G.length + 1 ∧
      putA (.obj TR) (.int (c : Int)) (.obj G.length) (G ++ [Ob.lst l]) = some ((G ++ [Ob.lst l]).set TR (Ob.lst ((ts.set c G.length).map Val.obj))) := by
  have hT : TR < G.length := (List.getElem?_eq_some_iff.mp h.tr).1
  have k : ∀ j, j ≠ TR → j < G.length → ((G ++ [Ob.lst l]).set TR (Ob.lst ((ts.set c G.length).map Val.obj)))[j]? = G[j]? := fun j hj hl => by
    rw [List.getElem?_set_ne (Ne.symm hj), List.getElem?_append_left hl]
  refine ⟨⟨?_, ?_, nodup_set h.nd fun z => ?_, fun j hj => ?_, h.bt⟩, k, by simp, ?_⟩
  · rw [List.getElem?_set_self (by rw [List.length_append]; omega)]
  · refine h.trs.new hc (fun q hq => k q (h.lo q hq).2 (h.trs.lt q hq)) ?_
    rw [List.getElem?_set_ne (show TR ≠ G.length by omega)]
    simp
  · have := h.trs.lt _ z
    omega
  · rcases List.mem_or_eq_of_mem_set hj with hj | rfl
    · exact h.lo j hj
    · have := h.bt
      exact ⟨by omega, by omega⟩
  · have h' : (G ++ [Ob.lst l])[TR]? = some (.lst (ts.map .obj)) := by rw [List.getElem?_append_left hT]; exact h.tr
    have p := putA_lst (k := c) (w := .obj G.length) h' (by rw [List.length_map]; exact hc)
    rw [p, List.map_set]
def initStep (t w : Nat) (tr : List (List Val)) (i : Nat) : List (List Val) := (tr.set (1 + 2 * t + i) [.int ((1 + 2 * t + w + i : Nat) : Int)]).set (1 + 2 * t + w + i) [.tup [.str 1, .tup []]]
def initTr (t w r : Nat) : List (List Val) := (List.range' 0 w).foldl (initStep t w) ((List.replicate (1 + 2 * t + w + r) [Val.non]).set 0 [.int 0])
def Me.init (t w r : Nat) : Me := ⟨t, w, r, 0, [], initTr t w r, List.replicate t []⟩
theorem init_loop {t w r : Nat} {M L R TR B : Nat} (hMT : M ≠ TR) (hLT : L ≠ TR) (hRT : R ≠ TR) : ∀ (is : List Nat) (ts : List Nat) (trails : List (List Val)) (o2 : Option Val) (G : Store), (∀ i ∈ is, i < w) → w ≤ r → ts.length = 1 + 2 * t + w + r → TrAt TR B ts trails G → G[M]? = some (.ins 1 [.obj L, .int 0, .obj R, .obj TR]) → LayAt G L t w r →
    ∃ p2 ts' G', forIt (.nm 2) b_Memory_init_l1 (is.map fun (k : Nat) => Val.int (k : Int)) [some (.obj M), some (.obj L), o2, none] G = .next [some (.obj M), some (.obj L), p2, none] G' ∧ TrAt TR B ts' (is.foldl (initStep t w) trails) G' ∧ ts'.length = 1 + 2 * t + w + r ∧ (∀ j, j ≠ TR → j < G.length → G'[j]? = G[j]?) ∧ G.length ≤ G'.length
  | [], ts, trails, o2, G, _, _, hl, h, _, _ => ⟨o2, ts, G, rfl, h, hl, fun _ _ _ => rfl, Nat.le_refl _⟩
  | i :: is, ts, trails, o2, G, hi, hwr, hl, h, hM, hL => by
    have hiw := hi i (List.mem_cons_self ..)
    obtain ⟨a1, a2, a3, a4⟩ := h.new (c := 1 + 2 * t + i) (l := [.int ((1 + 2 * t + w + i : Nat) : Int)]) (by omega)
    generalize hG1 : (G ++ [Ob.lst [.int ((1 + 2 * t + w + i : Nat) : Int)]]).set TR (Ob.lst ((ts.set (1 + 2 * t + i) G.length).map Val.obj)) = G1 at a1 a2 a3 a4
    have hMl : M < G.length := (List.getElem?_eq_some_iff.mp hM).1
    have hLl : L < G.length := (List.getElem?_eq_some_iff.mp hL).1
    have m1 : G1[M]? = some (.ins 1 [.obj L, .int 0, .obj R, .obj TR]) := by rw [a2 M hMT hMl]; exact hM
    have l1 : LayAt G1 L t w r := by
      show _ = _
      rw [a2 L hLT hLl]
      exact hL
    obtain ⟨b1, b2, b3, b4⟩ := a1.new (c := 1 + 2 * t + w + i) (l := [.tup [.str 1, .tup []]]) (by rw [List.length_set]; omega)
    generalize hG2 : (G1 ++ [Ob.lst [.tup [.str 1, .tup []]]]).set TR (Ob.lst (((ts.set (1 + 2 * t + i) G.length).set (1 + 2 * t + w + i) G1.length).map Val.obj)) = G2 at b1 b2 b3 b4
    have m2 : G2[M]? = some (.ins 1 [.obj L, .int 0, .obj R, .obj TR]) := by rw [b2 M hMT (by omega)]; exact m1
    have l2 : LayAt G2 L t w r := by
      show _ = _
      rw [b2 L hLT (by omega)]
      exact l1
    obtain ⟨p2, ts', G', ih, z1, z2, z3, z4⟩ := init_loop hMT hLT hRT is _ _ (some (.int (i : Int))) G2 (fun j hj => hi j (List.mem_cons_of_mem _ hj)) hwr (by rw [List.length_set, List.length_set]; exact hl) b1 m2 l2
    refine ⟨p2, ts', G', ?_, z1, z2, fun j h1 h2 => ?_, by omega⟩
    · rw [List.map_cons, v_forCons, ← ih]
      have f1 : ∀ J : Store, fldV [(1, 3)] (.obj M) (G ++ J) = .ok (.obj TR) (G ++ J) := fun J => fldV_at (by rw [List.getElem?_append_left hMl]; exact hM) rfl
      have hM1l : M < G1.length := by omega
      have f2 : ∀ J : Store, fldV [(1, 3)] (.obj M) (G1 ++ J) = .ok (.obj TR) (G1 ++ J) := fun J => fldV_at (by rw [List.getElem?_append_left hM1l]; exact m1) rfl
      have lJ : ∀ J : Store, LayAt (G ++ J) L t w r := fun J => by
        show _ = _
        rw [List.getElem?_append_left hLl]
        exact hL
      have lJ1 : ∀ J : Store, LayAt (G1 ++ J) L t w r := fun J => by
        show _ = _
        rw [List.getElem?_append_left (by omega)]
        exact l1
      have c1 : (1 + 2 * (t : Int) + (w : Int) + (i : Int)) = ((1 + 2 * t + w + i : Nat) : Int) := by simp
      have c2 : (1 + 2 * (t : Int) + (i : Int)) = ((1 + 2 * t + i : Nat) : Int) := by simp
      unfold b_Memory_init_l1
      simp only [v_seq, v_put, pt_nm, List.set_cons_succ, List.set_cons_zero, e_lst, e_aCons, e_aNil, e_meth, e_var, List.getElem?_cons_succ, List.getElem?_cons_zero, bind_ok, toS_ok, methV_1 hL, s_record hL, c1, mkL_f, List.length_cons, List.length_nil, List.append_nil, e_fld, f1]
      rw [if_pos (small_line (by simp))]
      simp only [toS_ok, f1, methV_1 (lJ _), e_aCons, e_aNil, e_var, List.getElem?_cons_succ, List.getElem?_cons_zero, bind_ok, List.append_nil, s_word (lJ _), c2, a4, then_next]
      simp only [v_put, e_lst, e_aCons, e_aNil, e_tup, e_c, bind_ok, List.length_cons, List.length_nil]
      rw [if_pos (small_line (by simp))]
      simp only [bind_ok]
      rw [if_pos (small_line (by simp))]
      simp only [bind_ok]
      rw [if_pos (small_line (by simp))]
      simp only [mkL_f, toS_ok, e_fld, e_var, List.getElem?_cons_succ, List.getElem?_cons_zero, bind_ok, f2, e_meth, methV_1 (lJ1 _), e_aCons, e_aNil, List.append_nil, s_record (lJ1 _), c1, b4]
    · rw [z3 j h1 (by omega), b2 j h1 (by omega), a2 j h1 h2]
end
section
variable {G : Store}
theorem s_no_notes {t w r : Nat} {M L : Nat} {vs : List Val} (hM : G[M]? = some (.ins 1 (.obj L :: vs))) (hL : LayAt G L t w r) (ht : t ≤ 1000) : m_Memory_no_notes [.obj M] G = .ok (.obj (G.length + t)) (G ++ List.replicate t (Ob.dic []) ++ [Ob.lst ((List.range' G.length t).map Val.obj)]) := by
  unfold m_Memory_no_notes b_Memory_no_notes
  rw [run_eq (by rfl)]
  have f1 : fldV [(1, 0)] (.obj M) G = .ok (.obj L) G := fldV_at hM rfl
  have al := lcF_alloc (p := .nm 1) (te := eDic0 false) (ρ := wipe1 [some (.obj M), none] [1]) (o := Ob.dic []) ((List.range' 0 t).map fun (k : Nat) => Val.int (k : Int)) G (fun v _ G => ⟨_, rfl, by simp⟩)
  rw [List.length_map, List.length_range'] at al
  have e : eLcFR false rng1 (aCons (eFld (eFld (eVar 0) [(1, 0)]) [(0, 0)]) aNil) (.nm 1) tTrue (eDic0 false) [1] [some (.obj M), none] G = .ok (.obj (G.length + t)) (G ++ List.replicate t (Ob.dic []) ++ [Ob.lst ((List.range' G.length t).map Val.obj)]) := by
    unfold eLcFR
    have ha : aCons (eFld (eFld (eVar 0) [(1, 0)]) [(0, 0)]) aNil [some (.obj M), none] G = .ok [.int (t : Int)] G := by simp [f1, lay_t hL]
    rw [ha]
    simp only [bind_ok, rng1_nat (n := t) (by omega)]
    rw [if_pos (small_line (by simp; omega)), al]
    simp only [froR_ok, mkL_f]
    simp
  simp [e]
theorem s_mem_init {t w r : Nat} {L : Nat} (hL : LayAt G L t w r) (ht : 1 ≤ t) (hb : t ≤ 3 ∧ w ≤ 4 ∧ r ≤ 200) (hwr : w ≤ r) : ∃ x G', m_Memory_init [.obj G.length, .obj L] (G ++ [.ins 1 []]) = .ok .non G' ∧ MemAt x (Me.init t w r) G' ∧ x.M = G.length ∧ x.L = L ∧ (∀ j, j < G.length → G'[j]? = G[j]?) ∧ G.length ≤ G'.length ∧ ∀ j ∈ x.own, G.length ≤ j := by
  unfold m_Memory_init b_Memory_init
  rw [run_eq (by rfl)]
  have hLl : L < G.length := (List.getElem?_eq_some_iff.mp hL).1
  have lJ : ∀ J : Store, LayAt (G ++ J) L t w r := fun J => by
    show _ = _
    rw [List.getElem?_append_left hLl]
    exact hL
  generalize hn : 1 + 2 * t + w + r = n
  have f1 : setFld 1 0 (.obj G.length) (.obj L) (G ++ [.ins 1 []]) = some (G ++ [.ins 1 [.obj L]]) := by
    rw [setFld_at get_new (by simp), set_new]
    rfl
  have f2 : setFld 1 1 (.obj G.length) (.int 0) (G ++ [.ins 1 [.obj L]]) = some (G ++ [.ins 1 [.obj L, .int 0]]) := by
    rw [setFld_at get_new (by simp), set_new]
    rfl
  have f3 : setFld 1 2 (.obj G.length) (.obj (G.length + 1)) (G ++ [.ins 1 [.obj L, .int 0], .lst []]) = some (G ++ [.ins 1 [.obj L, .int 0, .obj (G.length + 1)], .lst []]) := by
    rw [setFld_at get_new (by simp), set_new]
    rfl
  let S3 : Store := G ++ [.ins 1 [.obj L, .int 0, .obj (G.length + 1)], .lst []]
  have l3 : S3.length = G.length + 2 := by simp [S3]
  have al := lcF_alloc (p := .nm 3) (te := eLst false (aCons (eC .non) aNil)) (ρ := wipe1 [some (.obj G.length), some (.obj L), none, none] [3]) (o := Ob.lst [.non]) ((List.range' 0 n).map fun (k : Nat) => Val.int (k : Int)) S3 (fun v _ G => ⟨_, rfl, by simp⟩)
  rw [List.length_map, List.length_range'] at al
  let ts0 := List.range' S3.length n
  let TR := S3.length + n
  let S4 : Store := S3 ++ List.replicate n (Ob.lst [.non]) ++ [Ob.lst (ts0.map Val.obj)]
  have e4 : eLcFR false rng1 (aCons (eMeth [(0, m_Layout_cells)] [] (eVar 1) aNil) aNil) (.nm 3) tTrue (eLst false (aCons (eC .non) aNil)) [3] [some (.obj G.length), some (.obj L), none, none] S3 = .ok (.obj TR) S4 := by
    unfold eLcFR
    have ha : aCons (eMeth [(0, m_Layout_cells)] [] (eVar 1) aNil) aNil [some (.obj G.length), some (.obj L), none, none] S3 = .ok [.int (n : Int)] S3 := by
      have hc := s_cells (lJ [.ins 1 [.obj L, .int 0, .obj (G.length + 1)], .lst []])
      have c1 : (1 + 2 * (t : Int) + (w : Int) + (r : Int)) = (n : Int) := by omega
      rw [c1] at hc
      simp only [e_aCons, e_meth, e_var, List.getElem?_cons_succ, List.getElem?_cons_zero, bind_ok, methV_1 (lJ [.ins 1 [.obj L, .int 0, .obj (G.length + 1)], .lst []]), e_aNil, List.append_nil, S3, hc]
    rw [ha]
    simp only [bind_ok, rng1_nat (n := n) (by omega)]
    rw [if_pos (small_line (by simp; omega)), al]
    simp only [froR_ok, mkL_f, S4, ts0, TR]
    simp
  have m4 : S4[G.length]? = some (.ins 1 [.obj L, .int 0, .obj (G.length + 1)]) := by simp [S4, S3]
  let S5 : Store := S4.set G.length (.ins 1 [.obj L, .int 0, .obj (G.length + 1), .obj TR])
  have f4 : setFld 1 3 (.obj G.length) (.obj TR) S4 = some S5 := by
    rw [setFld_at m4 (by simp)]
    rfl
  have l4 : S4.length = G.length + 3 + n := by simp [S4, S3]; omega
  have k5 : ∀ j, j ≠ G.length → S5[j]? = S4[j]? := fun j hj => List.getElem?_set_ne (Ne.symm hj)
  have m5 : S5[G.length]? = some (.ins 1 [.obj L, .int 0, .obj (G.length + 1), .obj TR]) := by
    simp only [S5]
    rw [List.getElem?_set_self (by omega)]
  have L5 : LayAt S5 L t w r := by
    show _ = _
    rw [k5 L (by omega)]
    simp only [S4, S3, List.append_assoc]
    exact lJ _
  have R5 : S5[G.length + 1]? = some (.lst []) := by
    rw [k5 _ (by omega)]
    simp [S4, S3]
  have T5 : TrAt TR (G.length + 2) ts0 (List.replicate n [Val.non]) S5 := by
    refine ⟨?_, ?_, List.nodup_range', fun j hj => ?_, by simp only [TR]; omega⟩
    · rw [k5 _ (by simp only [TR]; omega)]
      simp [S4, TR]
    · refine (objs_rep (e := lsO) (a := [Val.non]) n S3 [Ob.lst (ts0.map Val.obj)]).stay fun o ho => k5 o ?_
      have := List.mem_range'.mp ho
      omega
    · have hj' : j ∈ List.range' S3.length n := hj
      rw [List.mem_range'] at hj'
      simp only [TR]
      omega
  obtain ⟨a1, a2, a3, a4⟩ := T5.new (c := 0) (l := [.int 0]) (by simp [ts0]; omega)
  generalize hS6 : (S5 ++ [Ob.lst [.int 0]]).set TR (Ob.lst ((ts0.set 0 S5.length).map Val.obj)) = S6 at a1 a2 a3 a4
  have l5 : S5.length = S4.length := List.length_set ..
  have m6 : S6[G.length]? = some (.ins 1 [.obj L, .int 0, .obj (G.length + 1), .obj TR]) := by rw [a2 _ (by simp only [TR]; omega) (by omega)]; exact m5
  have L6 : LayAt S6 L t w r := by
    show _ = _
    rw [a2 _ (by simp only [TR]; omega) (by omega)]
    exact L5
  obtain ⟨p2, ts', S7, e7, b1, b2, b3, b4⟩ := init_loop (t := t) (w := w) (r := r) (M := G.length) (L := L) (R := G.length + 1) (by simp only [TR]; omega) (by simp only [TR]; omega) (by simp only [TR]; omega) (List.range' 0 w) _ _ none S6 (fun i hi => by simpa using hi) hwr (by rw [List.length_set]; simp [ts0]; omega) a1 m6 L6
  have m7 : S7[G.length]? = some (.ins 1 [.obj L, .int 0, .obj (G.length + 1), .obj TR]) := by rw [b3 _ (by simp only [TR]; omega) (by omega)]; exact m6
  have L7 : LayAt S7 L t w r := by
    show _ = _
    rw [b3 _ (by simp only [TR]; omega) (by omega)]
    exact L6
  have e8 := s_no_notes m7 L7 (by omega)
  generalize hS8 : S7 ++ List.replicate t (Ob.dic []) ++ [Ob.lst ((List.range' S7.length t).map Val.obj)] = S8 at e8
  have k8 : ∀ j, j < S7.length → S8[j]? = S7[j]? := fun j hj => by rw [← hS8, List.append_assoc, List.getElem?_append_left hj]
  have l8 : S8.length = S7.length + t + 1 := by rw [← hS8]; simp; omega
  have m8 : S8[G.length]? = some (.ins 1 [.obj L, .int 0, .obj (G.length + 1), .obj TR]) := by rw [k8 _ (by omega)]; exact m7
  let S9 : Store := S8.set G.length (.ins 1 [.obj L, .int 0, .obj (G.length + 1), .obj TR, .obj (S7.length + t)])
  have f9 : setFld 1 4 (.obj G.length) (.obj (S7.length + t)) S8 = some S9 := by
    rw [setFld_at m8 (by simp)]
    rfl
  have k9 : ∀ j, j ≠ G.length → S9[j]? = S8[j]? := fun j hj => List.getElem?_set_ne (Ne.symm hj)
  have old : ∀ j, j ≠ TR → j ≠ G.length → j < S5.length → S9[j]? = S5[j]? := fun j h1 h2 h3 => by rw [k9 j h2, k8 j (by omega), b3 j h1 (by omega), a2 j h1 h3]
  have tsl : ∀ j ∈ ts', G.length + 2 ≤ j ∧ j ≠ TR ∧ j < S7.length := fun j hj => ⟨(b1.lo j hj).1, (b1.lo j hj).2, b1.trs.lt j hj⟩
  have TRl : TR < S7.length := (List.getElem?_eq_some_iff.mp b1.tr).1
  have hTR : TR = G.length + 2 + n := by simp only [TR]; omega
  refine ⟨⟨G.length, L, G.length + 1, TR, S7.length + t, ts', List.range' S7.length t⟩, S9, ?_, ⟨?_, ?_, ?_, ?_, ?_, ?_, ?_, ?_⟩, rfl, rfl, fun j hj => ?_, by simp only [S9, List.length_set]; omega, fun j hj => ?_⟩
  · have ep : m_Layout_epoch [.obj L] (S5 ++ [Ob.lst [.int 0]]) = .ok (.int 0) (S5 ++ [Ob.lst [.int 0]]) := by
      unfold m_Layout_epoch b_Layout_epoch
      rw [runT_eq (by rfl)]
      simp [trunc_d0]
    have hM5 : G.length < S5.length := by omega
    have g5 : ∀ J : Store, fldV [(1, 3)] (.obj G.length) (S5 ++ J) = .ok (.obj TR) (S5 ++ J) := fun J => fldV_at (by rw [List.getElem?_append_left hM5]; exact m5) rfl
    have lay5 : ∀ J : Store, LayAt (S5 ++ J) L t w r := fun J => by
      show _ = _
      rw [List.getElem?_append_left (by omega)]
      exact L5
    have rw1 := rng1_nat (n := w) (by omega)
    have s3 : G ++ [Ob.ins 1 [.obj L, .int 0, .obj (G.length + 1)], Ob.lst []] = S3 := rfl
    have a4' : putA (.obj TR) (.int 0) (.obj S5.length) (S5 ++ [Ob.lst [.int 0]]) = some S6 := a4
    simp [f1, f2, f3, s3, e4, f4, g5, methV_1 (lay5 _), ep, a4', lay_w L6, rw1, e7, methV_1 m7, e8, f9]
  · simp only [S9]
    rw [List.getElem?_set_self (by omega)]
    rfl
  · show _ = _
    rw [old L (by omega) (by omega) (by omega)]
    exact L5
  · show S9[G.length + 1]? = _
    rw [old _ (by omega) (by omega) (by omega)]
    exact R5
  · show S9[TR]? = _
    rw [k9 _ (by omega), k8 _ TRl]
    exact b1.tr
  · have : initTr t w r = (List.range' 0 w).foldl (initStep t w) ((List.replicate n [Val.non]).set 0 [.int 0]) := by
      unfold initTr
      rw [hn]
    show Objs lsO S9 ts' (initTr t w r)
    rw [this]
    exact b1.trs.stay fun j hj => by
      obtain ⟨h1, h2, h3⟩ := tsl j hj
      rw [k9 j (by omega), k8 j h3]
  · show S9[S7.length + t]? = _
    rw [k9 _ (by omega), ← hS8]
    simp
  · show Objs dcO S9 (List.range' S7.length t) (List.replicate t [])
    refine (objs_rep (e := dcO) (a := []) t S7 [Ob.lst ((List.range' S7.length t).map Val.obj)]).stay fun o ho => ?_
    have := List.mem_range'.mp ho
    rw [k9 o (by omega), ← hS8]
    rfl
  · show (L :: G.length :: (G.length + 1) :: TR :: (S7.length + t) :: (ts' ++ List.range' S7.length t)).Nodup
    have q1 : ∀ j ∈ List.range' S7.length t, S7.length ≤ j ∧ j < S7.length + t := fun j hj => by
      have := List.mem_range'.mp hj
      omega
    simp only [List.nodup_cons, List.mem_cons, List.mem_append, not_or, List.nodup_append]
    refine ⟨⟨by omega, by omega, by omega, by omega, fun z => ?_, fun z => ?_⟩, ⟨by omega, by omega, by omega, fun z => ?_, fun z => ?_⟩, ⟨by omega, by omega, fun z => ?_, fun z => ?_⟩, ⟨by omega, fun z => (tsl _ z).2.1 rfl, fun z => ?_⟩, ⟨fun z => ?_, fun z => ?_⟩, b1.nd, List.nodup_range', fun a ha b hb e => ?_⟩
    all_goals first
      | (have := tsl _ z; omega)
      | (have := q1 _ z; omega)
      | (have h1 := tsl _ ha; have h2 := q1 _ hb; omega)
  · rw [old j (by omega) (by omega) (by omega), k5 j (by omega)]
    simp only [S4, S3, List.append_assoc]
    rw [List.getElem?_append_left hj]
  · unfold Mx.own at hj
    simp only [List.mem_cons, List.mem_append] at hj
    rcases hj with rfl | rfl | rfl | rfl | hj | hj
    · exact Nat.le_refl _
    · omega
    · omega
    · omega
    · have := tsl j hj
      omega
    · have := List.mem_range'.mp hj
      omega
end
@[simp] theorem e_make {c : Nat} {f : F1} {dv : List Val} {k : AM} {ρ : Env1} {G : Store} : eMake c f dv k ρ G = (k ρ G).bind fun vs G1 => (f (.obj G1.length :: (vs ++ dv)) (G1 ++ [.ins c []])).bind fun v G2 => match v with
  | .non => .ok (.obj G1.length) G2
  | _ => .bad := (rfl)
section
variable {t w r : Nat}
theorem init_len : (initTr t w r).length = 1 + 2 * t + w + r := by
  have key : ∀ (is : List Nat) (tr : List (List Val)), (is.foldl (initStep t w) tr).length = tr.length := by
    intro is
    induction is with
    | nil => intro tr; rfl
    | cons i is ih =>
      intro tr
      rw [List.foldl_cons, ih]
      unfold initStep
      rw [List.length_set, List.length_set]
  unfold initTr
  rw [key, List.length_set, List.length_replicate]
def okT (l : List Val) : Prop := ∃ v, l = [v] ∧ okV v
theorem ok_empty : okV (.tup [.str 1, .tup []]) := ⟨rfl, _, rfl⟩
theorem init_ok : ∀ l ∈ initTr t w r, okT l := by
  have st : ∀ (tr : List (List Val)) (c : Nat) (v : Val), (∀ l ∈ tr, okT l) → okV v → ∀ l ∈ tr.set c [v], okT l := by
    intro tr c v h hv l hl
    rcases List.mem_or_eq_of_mem_set hl with hl | rfl
    · exact h l hl
    · exact ⟨v, rfl, hv⟩
  have key : ∀ (is : List Nat) (tr : List (List Val)), (∀ l ∈ tr, okT l) → ∀ l ∈ is.foldl (initStep t w) tr, okT l := by
    intro is
    induction is with
    | nil => intro tr h; exact h
    | cons i is ih =>
      intro tr h
      rw [List.foldl_cons]
      refine ih _ ?_
      unfold initStep
      exact st _ _ _ (st _ _ _ h ok_int) ok_empty
  unfold initTr
  refine key _ _ (st _ _ _ (fun l hl => ?_) ok_int)
  rw [List.eq_of_mem_replicate hl]
  exact ⟨.non, rfl, ok_non⟩
theorem wf_init (hb : 1 + 2 * t + w + r ≤ 5000) : (Me.init t w r).Wf := by
  refine ⟨init_len, fun l hl => ?_, fun l hl v hv => ?_, fun l hl => ?_, by simp [Me.init], fun d hd => ?_, by simp [Me.init], fun d hd => ?_, hb⟩
  · obtain ⟨v, rfl, _⟩ := init_ok l hl
    simp
  · obtain ⟨u, rfl, h⟩ := init_ok l hl
    rw [List.mem_singleton.mp hv]
    exact h
  · obtain ⟨v, rfl, _⟩ := init_ok l hl
    simp
  · rw [List.eq_of_mem_replicate (show d ∈ List.replicate t ([] : Prs) from hd)]
    exact List.nodup_nil
  · rw [List.eq_of_mem_replicate (show d ∈ List.replicate t ([] : Prs) from hd)]
    intro k hk
    cases hk
end
/-! what a cell holds behind a change -/
section
variable {m : Me} {c d : Nat}
theorem cur_give (wf : m.Wf) (hc : c < m.cells) {v : Val} : (m.give c v).cur d = if d = c then v else m.cur d := by
  have hcl : c < m.trails.length := by rw [wf.len]; exact hc
  unfold Me.give Me.cur
  show ((((m.trails.set c _)[d]?).getD []).getLast?).getD .non = _
  by_cases h : d = c
  · subst h
    rw [if_pos rfl, List.getElem?_set_self hcl]
    split <;> simp
  · rw [if_neg h, List.getElem?_set_ne (Ne.symm h)]
theorem cur_shorten (wf : m.Wf) (hc : c < m.cells) {s : Int} : (m.shorten c s).cur d = m.cur d := by
  have hcl : c < m.trails.length := by rw [wf.len]; exact hc
  unfold Me.shorten Me.cur
  show ((((m.trails.set c _)[d]?).getD []).getLast?).getD .non = _
  by_cases h : d = c
  · subst h
    rw [List.getElem?_set_self hcl, List.getElem?_eq_getElem hcl]
    have hne := wf.ne _ (List.getElem_mem hcl)
    have etr : m.tr d = m.trails[d] := by unfold Me.tr; rw [List.getElem?_eq_getElem hcl]; rfl
    have hlen : 0 < m.trails[d].length := List.length_pos_iff.mpr hne
    have hcut : m.cutN d s < m.trails[d].length := by
      unfold Me.cutN
      rw [etr]
      split <;> omega
    rw [etr]
    simp only [Option.getD_some]
    rw [List.getLast?_drop, if_neg (by omega)]
  · rw [List.getElem?_set_ne (Ne.symm h)]
theorem cells_give {v : Val} : (m.give c v).cells = m.cells := rfl
theorem cells_shorten {s : Int} : (m.shorten c s).cells = m.cells := rfl
end
/-! ### the law's tape of numbers below 1000 -/
section
variable {G : Store} {ns : List Int} {D : Nat}
theorem tape_l1 {r0 r2 : Option Val} : ∀ (ks : List Nat) (acc : List Int) (v : Int) (o4 : Option Val) (G : Store), acc.length + ks.length ≤ 900000 → (∀ a ∈ acc, 0 ≤ a ∧ a < 1000) → G[D]? = some (.lst (acc.map .int)) →
    ∃ (acc' : List Int) (v' : Int) (p4 : Option Val), forIt (.nm 4) b__law_tape_l1 (ks.map fun (k : Nat) => Val.int (k : Int)) [r0, some (.obj D), r2, some (.int v), o4] G = .next [r0, some (.obj D), r2, some (.int v'), p4] (G.set D (.lst (acc'.map .int))) ∧ (∀ a ∈ acc', 0 ≤ a ∧ a < 1000) ∧ acc'.length ≤ acc.length + ks.length
  | [], acc, v, o4, G, _, ha, hg => ⟨acc, v, o4, by
    obtain ⟨hl, e3⟩ := List.getElem?_eq_some_iff.mp hg
    rw [← e3, List.set_getElem_self]
    rfl, ha, by simp⟩
  | k :: ks, acc, v, o4, G, hl, ha, hg => by
    simp only [List.length_cons] at hl
    have hD : D < G.length := (List.getElem?_eq_some_iff.mp hg).1
    by_cases hv : 0 < v
    · have m1 : ∀ G, fMod (.int v) (.int 1000) G = .ok (.int (v % 1000)) G := fun G => fMod_ii (by decide)
      have d1 : ∀ G, fDiv (.int v) (.int 1000) G = .ok (.int (v / 1000)) G := fun G => fDiv_ii (by decide) (by decide)
      obtain ⟨acc', v', p4, ih, z1, z2⟩ := tape_l1 ks (acc ++ [v % 1000]) (v / 1000) (some (.int (k : Int))) (G.set D (.lst ((acc ++ [v % 1000]).map .int))) (by simp; omega) (fun a h => by
        rcases List.mem_append.mp h with h | h
        · exact ha a h
        · rw [List.mem_singleton.mp h]
          omega) (by rw [List.getElem?_set_self hD])
      rw [List.set_set] at ih
      refine ⟨acc', v', p4, ?_, z1, by simp at z2; simp; omega⟩
      have ap : setLst (.obj D) (fun l => if l.length < sizeLine then some (l ++ [.int (v % 1000)]) else none) G = some (G.set D (.lst ((acc ++ [v % 1000]).map .int))) := by
        rw [List.map_append]
        exact setLst_obj hg (if_pos (small_lt (by rw [List.length_map]; omega)))
      rw [List.map_cons, v_forCons, ← ih]
      unfold b__law_tape_l1 eApp
      simp [hv, hg, m1, d1, ap, -List.map_append]
    · obtain ⟨acc', v', p4, ih, z1, z2⟩ := tape_l1 ks acc v (some (.int (k : Int))) G (by omega) ha hg
      refine ⟨acc', v', p4, ?_, z1, by simp; omega⟩
      rw [List.map_cons, v_forCons, ← ih]
      unfold b__law_tape_l1
      simp [hv]
theorem tape_l2 {r0 : Option Val} {k0 : Nat} : ∀ (ks : List Nat) (acc : List Int) (v : Int) (o4 : Option Val) (G : Store), acc.length + ks.length ≤ 900000 → (∀ a ∈ acc, 0 ≤ a ∧ a < 1000) → G[D]? = some (.lst (acc.map .int)) →
    ∃ (acc' : List Int) (v' : Int) (p4 : Option Val), forIt (.nm 4) b__law_tape_l2 (ks.map fun (k : Nat) => Val.int (k : Int)) [r0, some (.obj D), some (.int (k0 : Int)), some (.int v), o4] G = .next [r0, some (.obj D), some (.int (k0 : Int)), some (.int v'), p4] (G.set D (.lst (acc'.map .int))) ∧ (∀ a ∈ acc', 0 ≤ a ∧ a < 1000) ∧ acc'.length ≤ acc.length + ks.length
  | [], acc, v, o4, G, _, ha, hg => ⟨acc, v, o4, by
    obtain ⟨hl, e3⟩ := List.getElem?_eq_some_iff.mp hg
    rw [← e3, List.set_getElem_self]
    rfl, ha, by simp⟩
  | k :: ks, acc, v, o4, G, hl, ha, hg => by
    simp only [List.length_cons] at hl
    have hD : D < G.length := (List.getElem?_eq_some_iff.mp hg).1
    have k1 : ∀ (a : Int) G, fMul true (.int a) (.int 48271) G = .ok (.int (a * 48271)) G := fun a G => fMul_r (by decide)
    have k2 : ∀ (a : Int) G, fMul true (.int 69621) (.int a) G = .ok (.int (69621 * a)) G := fun a G => fMul_l (by decide)
    have k3 : ∀ (a : Int) G, fMul true (.int 7) (.int a) G = .ok (.int (7 * a)) G := fun a G => fMul_l (by decide)
    have k4 : ∀ (a : Int) G, fMul true (.int a) (.int 16807) G = .ok (.int (a * 16807)) G := fun a G => fMul_r (by decide)
    have m1 : ∀ (a : Int) G, fMod (.int a) (.int 2147483647) G = .ok (.int (a % 2147483647)) G := fun a G => fMod_ii (by decide)
    have m2 : ∀ (a : Int) G, fMod (.int a) (.int 1000) G = .ok (.int (a % 1000)) G := fun a G => fMod_ii (by decide)
    have d1 : ∀ (a : Int) G, fDiv (.int a) (.int 1000) G = .ok (.int (a / 1000)) G := fun a G => fDiv_ii (by decide) (by decide)
    let v1 := (v * 48271 + 69621 * ((k0 : Int) + 1) + 7 * (k : Int)) % 2147483647 * 16807 % 2147483647
    obtain ⟨acc', v', p4, ih, z1, z2⟩ := tape_l2 (k0 := k0) ks (acc ++ [v1 / 1000 % 1000]) v1 (some (.int (k : Int))) (G.set D (.lst ((acc ++ [v1 / 1000 % 1000]).map .int))) (by simp; omega) (fun a h => by
      rcases List.mem_append.mp h with h | h
      · exact ha a h
      · rw [List.mem_singleton.mp h]
        omega) (by rw [List.getElem?_set_self hD])
    rw [List.set_set] at ih
    refine ⟨acc', v', p4, ?_, z1, by simp at z2; simp; omega⟩
    have ap : setLst (.obj D) (fun l => if l.length < sizeLine then some (l ++ [.int (v1 / 1000 % 1000)]) else none) G = some (G.set D (.lst ((acc ++ [v1 / 1000 % 1000]).map .int))) := by
      rw [List.map_append]
      exact setLst_obj hg (if_pos (small_lt (by rw [List.length_map]; omega)))
    rw [List.map_cons, v_forCons, ← ih]
    have ev : (v * 48271 + 69621 * ((k0 : Int) + 1) + 7 * (k : Int)) % 2147483647 * 16807 % 2147483647 = v1 := rfl
    unfold b__law_tape_l2 eApp
    simp [k1, k2, k3, k4, m1, m2, d1, ev, hg, ap, -List.map_append]
theorem tape_l3 : ∀ (ks : List Nat) (acc : List Int) (o2 o3 o4 : Option Val) (G : Store), acc.length + 60 * ks.length ≤ 800000 → (∀ k ∈ ks, k < ns.length) → (∀ a ∈ acc, 0 ≤ a ∧ a < 1000) → G[D]? = some (.lst (acc.map .int)) →
    ∃ (acc' : List Int) (p2 p3 p4 : Option Val), forIt (.nm 2) b__law_tape_l3 (ks.map fun (k : Nat) => Val.int (k : Int)) [some (.scr (ns.map .int)), some (.obj D), o2, o3, o4] G = .next [some (.scr (ns.map .int)), some (.obj D), p2, p3, p4] (G.set D (.lst (acc'.map .int))) ∧ (∀ a ∈ acc', 0 ≤ a ∧ a < 1000) ∧ acc'.length ≤ acc.length + 60 * ks.length
  | [], acc, o2, o3, o4, G, _, _, ha, hg => ⟨acc, o2, o3, o4, by
    obtain ⟨hl, e3⟩ := List.getElem?_eq_some_iff.mp hg
    rw [← e3, List.set_getElem_self]
    rfl, ha, by simp⟩
  | k :: ks, acc, o2, o3, o4, G, hl, hk, ha, hg => by
    simp only [List.length_cons] at hl
    have hD : D < G.length := (List.getElem?_eq_some_iff.mp hg).1
    have hk0 := hk k (List.mem_cons_self ..)
    have x : fIx (.scr (ns.map .int)) (.int (k : Int)) G = .ok (.int ns[k]) G := fIx_at (k := k) rfl (by rw [List.getElem?_map, List.getElem?_eq_getElem hk0]; rfl)
    have p18 : ∀ G, fPow (.int 10) (.int 18) G = .ok (.int 1000000000000000000) G := fun G => rfl
    let v := if ns[k] < 0 then -ns[k] else ns[k]
    have ev : (if ns[k] < 0 then -ns[k] else ns[k]) = v := rfl
    by_cases hv : 1000000000000000000 ≤ v
    · obtain ⟨acc1, v', p4, e1, z1, z2⟩ := tape_l1 (D := D) (r0 := some (.scr (ns.map .int))) (r2 := some (.int (k : Int))) (List.range' 0 60) acc v o4 G (by simp; omega) ha hg
      obtain ⟨acc', q2, q3, q4, ih, y1, y2⟩ := tape_l3 ks acc1 (some (.int (k : Int))) (some (.int v')) p4 (G.set D (.lst (acc1.map .int))) (by simp at z2; omega) (fun j h => hk j (List.mem_cons_of_mem _ h)) z1 (by rw [List.getElem?_set_self hD])
      rw [List.set_set] at ih
      refine ⟨acc', q2, q3, q4, ?_, y1, by simp at z2; simp; omega⟩
      have rg := rng1_nat (n := 60) (by decide)
      have rg' : rng1 [.int 60] = some ((List.range' 0 60).map fun (k : Nat) => Val.int (k : Int)) := rg
      rw [List.map_cons, v_forCons, ← ih]
      unfold b__law_tape_l3
      simp [x, ev, p18, hv, rg', e1, -List.map_map]
    · obtain ⟨acc1, v', p4, e1, z1, z2⟩ := tape_l2 (D := D) (r0 := some (.scr (ns.map .int))) (k0 := k) (List.range' 0 4) acc v o4 G (by simp; omega) ha hg
      obtain ⟨acc', q2, q3, q4, ih, y1, y2⟩ := tape_l3 ks acc1 (some (.int (k : Int))) (some (.int v')) p4 (G.set D (.lst (acc1.map .int))) (by simp at z2; omega) (fun j h => hk j (List.mem_cons_of_mem _ h)) z1 (by rw [List.getElem?_set_self hD])
      rw [List.set_set] at ih
      refine ⟨acc', q2, q3, q4, ?_, y1, by simp at z2; simp; omega⟩
      have rg' : rng1 [.int 4] = some ((List.range' 0 4).map fun (k : Nat) => Val.int (k : Int)) := rng1_nat (n := 4) (by decide)
      rw [List.map_cons, v_forCons, ← ih]
      unfold b__law_tape_l3
      simp [x, ev, p18, hv, rg', e1, -List.map_map]
end
section
variable {G : Store} {ns : List Int}
theorem s_ltape (hns : ns.length ≤ 63) : ∃ tp : List Int, m__law_tape [.scr (ns.map .int)] G = .ok (.fro (tp.map .int)) G ∧ (∀ a ∈ tp, 0 ≤ a ∧ a < 1000) ∧ tp.length ≤ 3780 := by
  unfold m__law_tape b__law_tape
  rw [runT_eq (by rfl)]
  have g : (G ++ [Ob.lst []])[G.length]? = some (.lst (([] : List Int).map .int)) := by simp
  obtain ⟨tp, p2, p3, p4, e, z1, z2⟩ := tape_l3 (ns := ns) (D := G.length) (List.range' 0 ns.length) [] none none none (G ++ [Ob.lst []]) (by simp; omega) (fun k h => by simpa using h) (by simp) g
  have es : (G ++ [Ob.lst []]).set G.length (.lst (tp.map .int)) = G ++ [Ob.lst (tp.map .int)] := by
    rw [List.set_append_right _ _ (Nat.le_refl _), Nat.sub_self]
    rfl
  rw [es] at e
  have rg := rng1_nat (n := ns.length) (by omega)
  refine ⟨tp, ?_, z1, by simp at z2; omega⟩
  simp [rg, e, trunc_l0]
def lat (tp : List Int) (k : Nat) : Int := tp[k]?.getD 0
theorem lat_rng {tp : List Int} (h : ∀ a ∈ tp, 0 ≤ a ∧ a < 1000) (k : Nat) : 0 ≤ lat tp k ∧ lat tp k < 1000 := by
  unfold lat
  cases e : tp[k]? with
  | none => simp
  | some a => exact h a (List.mem_of_getElem? e)
theorem s_lat {tp : List Int} {k : Nat} : m__law_at [.fro (tp.map .int), .int (k : Int)] G = .ok (.int (lat tp k)) G := by
  unfold m__law_at b__law_at
  rw [runT_eq (by rfl)]
  unfold lat
  by_cases h : k < tp.length
  · have x : fIx (.fro (tp.map .int)) (.int (k : Int)) G = .ok (.int tp[k]) G := fIx_at (k := k) rfl (by rw [List.getElem?_map, List.getElem?_eq_getElem h]; rfl)
    simp [h, x, trunc_d0]
  · simp [h, trunc_d0]
end
/-! ### aside of the memory -/
section
variable {x x' : Mx} {m : Me} {G G' : Store} {j : Nat}
structure Ap (x : Mx) (G : Store) (j : Nat) : Prop where
  lt : j < G.length
  own : j ∉ x.own
  L : j ≠ x.L
theorem Ap.fr (a : Ap x G j) (f : Fr x G x' G') : Ap x' G' j ∧ G'[j]? = G[j]? :=
  ⟨⟨Nat.lt_of_lt_of_le a.lt f.len, fun h => (f.own j h).elim a.own fun z => absurd a.lt (Nat.not_lt.mpr z), by rw [f.L]; exact a.L⟩, f.off j a.lt a.own⟩
theorem Ap.set (a : Ap x G j) {k : Nat} {o : Ob} : Ap x (G.set k o) j := ⟨by rw [List.length_set]; exact a.lt, a.own, a.L⟩
theorem MemAt.aside (h : MemAt x m G) (a : Ap x G j) (o : Ob) : MemAt x m (G.set j o) := h.stay fun k hk => by
  rw [List.getElem?_set_ne]
  rintro rfl
  exact hk.elim a.L a.own
end
/-! ### fence, the trails, cuts -/
section
variable {x : Mx} {m : Me} {G : Store} {c : Nat}
/-- a fence: the notes of a thread -/
def Me.fenceS (d : Prs) (m : Me) (k : Int) : Me := m.shorten k.toNat ((lookA d k).getD 0)
def Me.fence (m : Me) (th : Nat) : Me := (sortI (Keys (m.notes[th]?.getD []))).foldl (Me.fenceS (m.notes[th]?.getD [])) { m with notes := m.notes.set th [] }
theorem wf_clear (wf : m.Wf) {th : Nat} : ({ m with notes := m.notes.set th [] } : Me).Wf := by
  refine ⟨wf.len, wf.ne, wf.val, wf.tl, ?_, fun d hd => ?_, wf.rl, fun d hd => ?_, wf.cb⟩
  · show (m.notes.set th []).length = m.t
    rw [List.length_set]
    exact wf.nl
  · rcases List.mem_or_eq_of_mem_set (show d ∈ m.notes.set th [] from hd) with h | rfl
    · exact wf.nk d h
    · exact List.nodup_nil
  · rcases List.mem_or_eq_of_mem_set (show d ∈ m.notes.set th [] from hd) with h | rfl
    · exact wf.nc d h
    · intro k hk
      cases hk
theorem fence_loop {d : Prs} {o th : Nat} : ∀ (ks : List Int) (x : Mx) (m : Me) (G : Store) (o3 : Option Val), MemAt x m G → m.Wf → Ap x G o → G[o]? = some (.dic (kvE Val.int d)) → (∀ k ∈ ks, k ∈ Keys d ∧ ∃ c : Nat, k = (c : Int) ∧ c < m.cells) →
    ∃ p3 x' G', forIt (.nm 3) b_Memory_fence_l1 (ks.map Val.int) [some (.obj x.M), some (.int (th : Int)), some (.obj o), o3] G = .next [some (.obj x.M), some (.int (th : Int)), some (.obj o), p3] G' ∧ MemAt x' (ks.foldl (Me.fenceS d) m) G' ∧ (ks.foldl (Me.fenceS d) m).Wf ∧ Fr x G x' G'
  | [], x, m, G, o3, h, wf, a, ho, hk => ⟨o3, x, G, rfl, h, wf, Fr.refl⟩
  | k :: ks, x, m, G, o3, h, wf, a, ho, hk => by
    obtain ⟨hkd, c, rfl, hc⟩ := hk k (List.mem_cons_self ..)
    obtain ⟨v, ev⟩ : ∃ v, lookA d (c : Int) = some v := Option.ne_none_iff_exists'.mp fun z => lookA_none.mp z hkd
    obtain ⟨x1, G1, e1, z1, z2⟩ := s_shorten h wf hc wf.hnd (s := v)
    have w1 := wf_shorten wf hc (s := v)
    obtain ⟨a1, ho1⟩ := a.fr z2
    obtain ⟨p3, x', G', ih, y1, y2, y3⟩ := fence_loop (th := th) ks x1 (m.shorten c v) G1 (some (.int (c : Int))) z1 w1 a1 (by rw [ho1]; exact ho) (fun j hj => hk j (List.mem_cons_of_mem _ hj))
    have es : Me.fenceS d m (c : Int) = m.shorten c v := by
      unfold Me.fenceS
      rw [ev]
      rfl
    refine ⟨p3, x', G', ?_, by rw [List.foldl_cons, es]; exact y1, by rw [List.foldl_cons, es]; exact y2, z2.trans y3⟩
    have i1 : fIx (.obj o) (.int (c : Int)) G = .ok (.int v) G := fIx_dobj ho (by rw [look_kvE, ev]; rfl)
    rw [z2.M] at ih
    have eb : b_Memory_fence_l1 [some (.obj x.M), some (.int (th : Int)), some (.obj o), some (.int (c : Int))] G = .next [some (.obj x.M), some (.int (th : Int)), some (.obj o), some (.int (c : Int))] G1 := by
      unfold b_Memory_fence_l1
      simp [methV_1 h.mem, i1, e1]
    rw [List.map_cons, v_forCons]
    simp only [pt_nm, List.set_cons_succ, List.set_cons_zero]
    rw [eb]
    exact ih
theorem intKeys_kvE : ∀ (d : Prs), intKeys (kvE Val.int d) = some (Keys d)
  | [] => rfl
  | (k, v) :: d => by
    have ih := intKeys_kvE d
    show (intKeys (kvE Val.int d)).map (k :: ·) = some (k :: Keys d)
    rw [ih]
    rfl
theorem bSortX_dict {o : Nat} {d : Prs} (h : G[o]? = some (.dic (kvE Val.int d))) (hl : d.length < 64) : bSortX [.obj o] G = .ok (.fro ((sortI (Keys d)).map Val.int)) G := by
  have e1 : bSortL [.obj o] G = .bad := by
    unfold bSortL itemsL lstOf
    simp [h]
  have e2 : bSortD [.obj o] G = .ok (.fro ((sortI (Keys d)).map Val.int)) G := by
    unfold bSortD
    simp only [dic_obj h, Option.bind, intKeys_kvE]
    rw [if_pos (by rw [List.length_map]; exact hl)]
  unfold bSortX orF1 bSortA orF1
  rw [e1]
  simp only [e2]
theorem s_fence (h : MemAt x m G) (wf : m.Wf) {th : Nat} (ht : th < m.t) (h64 : (m.notes[th]?.getD []).length < 64) : ∃ x' G', m_Memory_fence [.obj x.M, .int (th : Int)] G = .ok .non G' ∧ MemAt x' (m.fence th) G' ∧ (m.fence th).Wf ∧ Fr x G x' G' := by
  have htn : th < m.notes.length := by rw [wf.nl]; exact ht
  obtain ⟨o, e1, e2⟩ := h.nos.get (List.getElem?_eq_getElem htn)
  have en : m.notes[th]?.getD [] = m.notes[th] := by rw [List.getElem?_eq_getElem htn]; rfl
  rw [en] at h64
  have htx : th < x.ns.length := by rw [h.nos.len]; exact htn
  have fx : fIx (.obj x.N) (.int (th : Int)) G = .ok (.obj o) G := fIx_lobj h.no (by rw [List.getElem?_map, e1]; rfl)
  obtain ⟨h1, f1⟩ := h.noteNew htx
  have h' := h.app (J := [Ob.dic []])
  have p := putA_lst (G := G ++ [Ob.dic []]) (i := x.N) (k := th) (w := .obj G.length) h'.no (by rw [List.length_map]; exact htx)
  have em : (x.ns.map Val.obj).set th (.obj G.length) = (x.ns.set th G.length).map Val.obj := by rw [List.map_set]
  rw [em] at p
  have oN : o ≠ x.N := fun z => h.ne.Nn (z ▸ List.mem_of_getElem? e1)
  have ol : o < G.length := (List.getElem?_eq_some_iff.mp e2).1
  have hns := h.ne.ns
  have a1 : Ap { x with ns := x.ns.set th G.length } ((G ++ [Ob.dic []]).set x.N (Ob.lst ((x.ns.set th G.length).map Val.obj))) o := by
    have nd := h.ne
    have om := List.mem_of_getElem? e1
    refine ⟨by simp; omega, fun z => ?_, fun z => nd.Ln (z ▸ om)⟩
    unfold Mx.own at z
    simp only [List.mem_cons, List.mem_append] at z
    rcases z with z | z | z | z | z | z
    · exact nd.Mn (z ▸ om)
    · exact nd.Rn (z ▸ om)
    · exact nd.Tn (z ▸ om)
    · exact oN z
    · exact nd.dj o z om
    · obtain ⟨j, hj, ej⟩ := List.mem_iff_getElem.mp z
      rw [List.getElem_set] at ej
      split at ej
      · omega
      · rename_i hne
        have hj' : j < x.ns.length := by rw [List.length_set] at hj; exact hj
        obtain ⟨hth, eth⟩ := List.getElem?_eq_some_iff.mp e1
        exact hne ((List.getElem_inj hns).mp (eth.trans ej.symm))
  have ho : ((G ++ [Ob.dic []]).set x.N (Ob.lst ((x.ns.set th G.length).map Val.obj)))[o]? = some (.dic (kvE Val.int m.notes[th])) := by
    rw [List.getElem?_set_ne (Ne.symm oN), List.getElem?_append_left ol]
    exact e2
  have sm : ∀ k ∈ sortI (Keys m.notes[th]), k ∈ Keys m.notes[th] ∧ ∃ c : Nat, k = (c : Int) ∧ c < ({ m with notes := m.notes.set th [] } : Me).cells := fun k hk => by
    have hk' := (sortI_perm _).mem_iff.mp hk
    obtain ⟨c, ec, hc, _⟩ := wf.nc _ (List.getElem_mem htn) k hk'
    exact ⟨hk', c, ec, hc⟩
  have so := bSortX_dict ho h64
  obtain ⟨p3, x', G', lo, z1, z2, z3⟩ := fence_loop (d := m.notes[th]) (o := o) (th := th) (sortI (Keys m.notes[th])) _ _ _ none h1 (wf_clear wf) a1 ho sm
  refine ⟨x', G', ?_, by unfold Me.fence; rw [en]; exact z1, by unfold Me.fence; rw [en]; exact z2, f1.trans z3⟩
  unfold m_Memory_fence b_Memory_fence
  rw [run_eq (by rfl)]
  simp only at lo
  have fN := mf_no h'
  simp [mf_no h, fx, fN, p, so, lo, -List.map_set]
end
section
variable {x : Mx} {m : Me} {G : Store} {c : Nat}
theorem s_lasting (h : MemAt x m G) (wf : m.Wf) (hc : c < m.cells) (hl : m.last c = true) : ∃ v, (m.tr c)[0]? = some v ∧ m_Memory_lasting [.obj x.M, .int (c : Int)] G = .ok v G := by
  obtain ⟨o, l, e1, e2, e3, e4, e5⟩ := tr_at h wf hc
  have etr : m.tr c = l := by unfold Me.tr; rw [e2]; rfl
  obtain ⟨v, r, rfl⟩ := List.exists_cons_of_ne_nil e3
  refine ⟨v, by rw [etr]; rfl, ?_⟩
  unfold m_Memory_lasting b_Memory_lasting
  rw [run_eq (by rfl)]
  have i0 : fIx (.obj o) (.int 0) G = .ok v G := fIx_lobj (k := 0) e4 rfl
  simp [methV_1 h.mem, s_check_lasting h wf hc hl, mf_tr h, e5, i0]
theorem bListA_obj {l : List Val} {o : Nat} {z : Bool} (h : G[o]? = some (.lst l)) : bListA z [.obj o] G = mkL z l G := by
  unfold bListA orF1 bList
  simp only [items_obj h]
  cases z <;> rfl
theorem s_trail (h : MemAt x m G) (wf : m.Wf) (hc : c < m.cells) (hl : m.last c = true) : m_Memory_trail [.obj x.M, .int (c : Int)] G = .ok (.fro (m.tr c)) G := by
  obtain ⟨o, l, e1, e2, e3, e4, e5⟩ := tr_at h wf hc
  have etr : m.tr c = l := by unfold Me.tr; rw [e2]; rfl
  unfold m_Memory_trail b_Memory_trail
  rw [run_eq (by rfl), etr]
  simp [methV_1 h.mem, s_check_lasting h wf hc hl, mf_tr h, e5, bListA_obj e4]
end
section
variable {x : Mx} {m : Me} {G : Store} {c : Nat}
/-- an access of any kind -/
def Me.accA (m : Me) (th : Nat) : Rq → Val × Me
  | .fence => (.tup [.non, .int ((m.count : Int) + 1)], (m.tick th .fence).fence th)
  | q => m.acc th q
theorem shorten_count {s : Int} : (m.shorten c s).count = m.count := rfl
theorem foldl_fence {d : Prs} : ∀ (ks : List Int) (m : Me), (ks.foldl (Me.fenceS d) m).count = m.count ∧ (ks.foldl (Me.fenceS d) m).rows = m.rows ∧ (ks.foldl (Me.fenceS d) m).t = m.t ∧ (ks.foldl (Me.fenceS d) m).w = m.w ∧ (ks.foldl (Me.fenceS d) m).r = m.r
  | [], m => ⟨rfl, rfl, rfl, rfl, rfl⟩
  | k :: ks, m => foldl_fence ks (Me.fenceS d m k)
theorem fence_count {th : Nat} : (m.fence th).count = m.count ∧ (m.fence th).rows = m.rows ∧ (m.fence th).t = m.t ∧ (m.fence th).w = m.w ∧ (m.fence th).r = m.r := foldl_fence _ _
theorem s_accessA (h : MemAt x m G) (wf : m.Wf) (hz : m.count < 100000) {q : Rq} (hq : q.ok m) {th : Nat} (ht : th < m.t) (h64 : (m.notes[th]?.getD []).length < 64) : ∃ x' G', m_Memory_access_R [.obj x.M, .int (th : Int), q.val] G = .ok (m.accA th q).1 G' ∧ MemAt x' (m.accA th q).2 G' ∧ (m.accA th q).2.Wf ∧ Fr x G x' G' := by
  by_cases nf : q = .fence
  · subst nf
    unfold m_Memory_access_R b_Memory_access_R
    rw [run_eq (by rfl)]
    have e1 := s_check_request h wf hq ht
    obtain ⟨h1, f1⟩ := h.setCount (m.count + 1)
    have a1 : ∀ ρ : Env1, augV 1 1 (.obj x.M) (eC (.int 1)) ρ G = .next ρ (G.set x.M (Ob.ins 1 [.obj x.L, .int ((m.count : Int) + 1), .obj x.R, .obj x.TR, .obj x.N])) := fun ρ => augV_at h.mem rfl rfl
    have ec : ((m.count + 1 : Nat) : Int) = (m.count : Int) + 1 := by simp
    rw [ec] at h1 f1
    generalize hG1 : G.set x.M (Ob.ins 1 [.obj x.L, .int ((m.count : Int) + 1), .obj x.R, .obj x.TR, .obj x.N]) = G1 at h1 f1 a1
    have c1 := mf_count h1
    simp only [ec] at c1
    obtain ⟨h2, f2⟩ := h1.setRows (m.rows ++ [.tup [.int ((m.count : Int) + 1), .int (th : Int), Rq.fence.val]])
    have ap : setLst (.obj x.R) (fun l => if l.length < sizeLine then some (l ++ [.tup [.int ((m.count : Int) + 1), .int (th : Int), Rq.fence.val]]) else none) G1 = some (G1.set x.R (Ob.lst (m.rows ++ [.tup [.int ((m.count : Int) + 1), .int (th : Int), Rq.fence.val]]))) := setLst_obj h1.rows (if_pos (small_lt (by
      have := wf.rl
      show m.rows.length ≤ 1000000
      omega)))
    generalize hG2 : G1.set x.R (Ob.lst (m.rows ++ [.tup [.int ((m.count : Int) + 1), .int (th : Int), Rq.fence.val]])) = G2 at h2 f2 ap
    obtain ⟨x', G', e2, h3, w3, f3⟩ := s_fence (m := m.tick th .fence) h2 (wf_tick wf) ht h64
    have c3 := mf_count h3
    have ecnt : (((m.tick th .fence).fence th).count : Int) = (m.count : Int) + 1 := by
      rw [fence_count.1]
      exact ec
    rw [ecnt, f3.M] at c3
    refine ⟨x', G', ?_, h3, w3, (f1.trans f2).trans f3⟩
    have er : m_Memory_result [.obj x.M, .int (th : Int), .tup [.str 7]] G2 = .ok .non G' := by
      unfold m_Memory_result b_Memory_result
      rw [run_eq (by rfl)]
      simp [methV_1 h2.mem, e2]
    unfold eApp
    simp only [Rq.val] at e1 ap
    simp [methV_1 h.mem, e1, a1, mf_rows h1, h1.rows, c1, ap, methV_1 h2.mem, er, c3, Me.accA, Rq.val]
  · obtain ⟨x', G', e, z1, z2⟩ := s_access h wf hz hq ht wf.hnd nf
    have ea : m.accA th q = m.acc th q := by cases q <;> first | rfl | exact absurd rfl nf
    rw [ea]
    exact ⟨x', G', e, z1, wf_acc wf hq, z2⟩
end
section
variable {x : Mx} {m : Me} {G : Store} {c : Nat}
/-! the power is cut -/
theorem rng2_nat {a b : Nat} (ha : a ≤ 1000000) (hb : b ≤ 1000000) : rng2 [.int (a : Int), .int (b : Int)] = some ((List.range' a (b - a)).map fun (k : Nat) => Val.int (k : Int)) := by
  unfold rng2
  have h1 : inLine (a : Int) = true := by
    unfold inLine
    simp
    omega
  have h2 : inLine (b : Int) = true := by
    unfold inLine
    simp
    omega
  simp only [h1, h2, Bool.and_self, if_true]
  unfold rangeL
  have e : ((b : Int) - (a : Int)).toNat = b - a := by omega
  rw [e]
  have : List.range' a (b - a) = (List.range (b - a)).map (a + ·) := by rw [List.range_eq_range', List.map_add_range']; simp
  rw [this, List.map_map]
  congr 1
def Me.keep1 (m : Me) (c : Nat) : Me := { m with trails := m.trails.set c ((m.tr c).take 1) }
def Me.cutStep (ch : List Int) (first : Nat) (m : Me) (c : Nat) : Me := Me.keep1 (match ch[c - first]? with
  | some s => m.shorten c s
  | none => m) c
def Me.pass1 (m : Me) (c : Nat) : Me := { m with trails := m.trails.set c [.non] }
def Me.cutL (m : Me) (ch : List Int) : Me := (List.range' (1 + m.t) (m.cells - (1 + m.t))).foldl (Me.cutStep ch (1 + m.t)) m
def Me.cutP (m : Me) : Me := (List.range' 0 (1 + m.t)).foldl Me.pass1 m
def Me.cut (m : Me) (ch : List Int) : Me :=
  let m2 := (m.cutL ch).cutP
  { m2 with trails := m2.trails.set 0 [.int 0], notes := List.replicate m2.t [] }
theorem wf_keep1 (wf : m.Wf) (hc : c < m.cells) : (m.keep1 c).Wf := by
  obtain ⟨l, hl⟩ : ∃ l, m.trails[c]? = some l := ⟨_, List.getElem?_eq_getElem (by rw [wf.len]; exact hc)⟩
  have etr : m.tr c = l := by unfold Me.tr; rw [hl]; rfl
  have hm := List.mem_of_getElem? hl
  have hne := wf.ne l hm
  unfold Me.keep1
  rw [etr]
  refine wf_set wf (fun z => ?_) (fun v hv => wf.val l hm v (List.mem_of_mem_take hv)) ?_
  · have := congrArg List.length z
    have h0 := List.length_pos_iff.mpr hne
    rw [List.length_take] at this
    simp at this
    exact hne this
  · have := wf.tl l hm
    rw [List.length_take]
    omega
theorem wf_pass1 (wf : m.Wf) {v : Val} (hv : okV v) : ({ m with trails := m.trails.set c [v] } : Me).Wf := wf_set wf (by simp) (fun w hw => by rw [List.mem_singleton.mp hw]; exact hv) (by simp)
theorem cut_l2_loop {ch : List Int} {r0 : Option Val} (ht : m.t ≤ 3) : ∀ (cs : List Nat) (x : Mx) (m1 : Me) (G : Store) (o4 : Option Val), MemAt x m1 G → m1.Wf → m1.t = m.t → m1.cells = m.cells → (∀ c ∈ cs, 1 + m.t ≤ c ∧ c < m.cells) →
    ∃ p4 x' G', forIt (.nm 4) b_Memory_cut_R_l2 (cs.map fun (k : Nat) => Val.int (k : Int)) [some (.obj x.M), some (.fro (ch.map .int)), r0, some (.int ((1 + m.t : Nat) : Int)), o4] G = .next [some (.obj x.M), some (.fro (ch.map .int)), r0, some (.int ((1 + m.t : Nat) : Int)), p4] G' ∧ MemAt x' (cs.foldl (Me.cutStep ch (1 + m.t)) m1) G' ∧ (cs.foldl (Me.cutStep ch (1 + m.t)) m1).Wf ∧ Fr x G x' G'
  | [], x, m1, G, o4, h, wf, _, _, _ => ⟨o4, x, G, rfl, h, wf, Fr.refl⟩
  | c :: cs, x, m1, G, o4, h, wf, e1, e2, hc => by
    obtain ⟨hc1, hc2⟩ := hc c (List.mem_cons_self ..)
    have hcc : c < m1.cells := by rw [e2]; exact hc2
    have sub : fSub (.int (c : Int)) (.int ((1 + m.t : Nat) : Int)) G = .ok (.int ((c - (1 + m.t) : Nat) : Int)) G := by
      show Res.ok (Val.int ((c : Int) - ((1 + m.t : Nat) : Int))) G = _
      have : (c : Int) - ((1 + m.t : Nat) : Int) = ((c - (1 + m.t) : Nat) : Int) := by omega
      rw [this]
    -- the first part
    obtain ⟨m2, x2, G2, ef, h2, w2, f2, em2, et2, ec2⟩ : ∃ (m2 : Me) (x2 : Mx) (G2 : Store), sIf (eTest (eOp fLt (eOp fSub (eVar 4) (eVar 3)) (eCall bLen (aCons (eVar 1) aNil)))) (sEx (eMeth [(1, m_Memory_shorten)] [] (eVar 0) (aCons (eVar 4) (aCons (eOp fIx (eVar 1) (eOp fSub (eVar 4) (eVar 3))) aNil)))) sPass [some (.obj x.M), some (.fro (ch.map .int)), r0, some (.int ((1 + m.t : Nat) : Int)), some (.int (c : Int))] G = .next [some (.obj x.M), some (.fro (ch.map .int)), r0, some (.int ((1 + m.t : Nat) : Int)), some (.int (c : Int))] G2 ∧ MemAt x2 m2 G2 ∧ m2.Wf ∧ Fr x G x2 G2 ∧ (m2 = match ch[c - (1 + m.t)]? with | some s => m1.shorten c s | none => m1) ∧ m2.t = m.t ∧ m2.cells = m.cells := by
      cases e : ch[c - (1 + m.t)]? with
      | none =>
        have hl : ¬ (((c - (1 + m.t) : Nat) : Int) < (ch.length : Int)) := by
          have := List.getElem?_eq_none_iff.mp e
          omega
        refine ⟨m1, x, G, ?_, h, wf, Fr.refl, rfl, e1, e2⟩
        simp [sub, hl, -fSub_ii, -Int.natCast_add]
      | some s =>
        have hl : (((c - (1 + m.t) : Nat) : Int) < (ch.length : Int)) := by
          have := (List.getElem?_eq_some_iff.mp e).1
          omega
        obtain ⟨x', G', e3, z1, z2⟩ := s_shorten h wf hcc wf.hnd (s := s)
        refine ⟨m1.shorten c s, x', G', ?_, z1, wf_shorten wf hcc, z2, rfl, e1, e2⟩
        have i1 : fIx (.fro (ch.map .int)) (.int ((c - (1 + m.t) : Nat) : Int)) G = .ok (.int s) G := fIx_at (k := c - (1 + m.t)) rfl (by rw [List.getElem?_map, e]; rfl)
        simp [sub, hl, i1, methV_1 h.mem, e3, -fSub_ii, -Int.natCast_add]
    have hcc2 : c < m2.cells := by rw [ec2]; exact hc2
    obtain ⟨o, l, q1, q2, q3, q4, q5⟩ := tr_at h2 w2 hcc2
    have etr : m2.tr c = l := by unfold Me.tr; rw [q2]; rfl
    have hct : c < x2.ts.length := by rw [h2.trs.len, w2.len]; exact hcc2
    have sl : fSl false (.obj o) none (some 1) G2 = .ok (.obj G2.length) (G2 ++ [.lst (l.take 1)]) := by
      have := cut_take (l := l) (n := 1)
      unfold fSl
      simp only [lst_obj q4]
      rw [show (some (1 : Int)) = some ((1 : Nat) : Int) from rfl, this, mkL_f]
    have h' := h2.app (J := [.lst (l.take 1)])
    obtain ⟨h3, f3⟩ := h2.new (l := l.take 1) hct
    have p := putA_lst (G := G2 ++ [.lst (l.take 1)]) (i := x2.TR) (k := c) (w := .obj G2.length) h'.tr (by rw [List.length_map]; exact hct)
    have em : (x2.ts.map Val.obj).set c (.obj G2.length) = (x2.ts.set c G2.length).map Val.obj := by rw [List.map_set]
    rw [em] at p
    have ek : m2.keep1 c = { m2 with trails := m2.trails.set c (l.take 1) } := by unfold Me.keep1; rw [etr]
    rw [← ek] at h3
    have w3 := wf_keep1 w2 hcc2
    have es : Me.cutStep ch (1 + m.t) m1 c = m2.keep1 c := by unfold Me.cutStep; rw [em2]
    obtain ⟨p4, x', G', ih, y1, y2, y3⟩ := cut_l2_loop (ch := ch) (r0 := r0) ht cs _ (m2.keep1 c) _ (some (.int (c : Int))) h3 w3 et2 ec2 (fun j hj => hc j (List.mem_cons_of_mem _ hj))
    refine ⟨p4, x', G', ?_, by rw [List.foldl_cons, es]; exact y1, by rw [List.foldl_cons, es]; exact y2, (f2.trans f3).trans y3⟩
    simp only [f2.M] at ih
    have fT := mf_tr h2
    have fT' := mf_tr h'
    rw [f2.M] at fT fT'
    have eb : b_Memory_cut_R_l2 [some (.obj x.M), some (.fro (ch.map .int)), r0, some (.int ((1 + m.t : Nat) : Int)), some (.int (c : Int))] G = .next [some (.obj x.M), some (.fro (ch.map .int)), r0, some (.int ((1 + m.t : Nat) : Int)), some (.int (c : Int))] ((G2 ++ [Ob.lst (l.take 1)]).set x2.TR (Ob.lst ((x2.ts.set c G2.length).map Val.obj))) := by
      unfold b_Memory_cut_R_l2
      rw [v_seq, ef]
      simp [fT, q5, sl, fT', p, -Int.natCast_add, -List.map_set]
    rw [List.map_cons, v_forCons]
    simp only [pt_nm, List.set_cons_succ, List.set_cons_zero]
    rw [eb]
    exact ih
theorem cut_l1_loop {r1 r2 r3 : Option Val} : ∀ (cs : List Nat) (x : Mx) (m1 : Me) (G : Store) (o4 : Option Val), MemAt x m1 G → m1.Wf → (∀ c ∈ cs, c < m1.cells) →
    ∃ p4 x' G', forIt (.nm 4) b_Memory_cut_R_l1 (cs.map fun (k : Nat) => Val.int (k : Int)) [some (.obj x.M), r1, r2, r3, o4] G = .next [some (.obj x.M), r1, r2, r3, p4] G' ∧ MemAt x' (cs.foldl Me.pass1 m1) G' ∧ (cs.foldl Me.pass1 m1).Wf ∧ Fr x G x' G'
  | [], x, m1, G, o4, h, wf, _ => ⟨o4, x, G, rfl, h, wf, Fr.refl⟩
  | c :: cs, x, m1, G, o4, h, wf, hc => by
    have hcc := hc c (List.mem_cons_self ..)
    have hct : c < x.ts.length := by rw [h.trs.len, wf.len]; exact hcc
    have h' := h.app (J := [.lst [.non]])
    obtain ⟨h3, f3⟩ := h.new (l := [.non]) hct
    have p := putA_lst (G := G ++ [.lst [.non]]) (i := x.TR) (k := c) (w := .obj G.length) h'.tr (by rw [List.length_map]; exact hct)
    have em : (x.ts.map Val.obj).set c (.obj G.length) = (x.ts.set c G.length).map Val.obj := by rw [List.map_set]
    rw [em] at p
    obtain ⟨p4, x', G', ih, y1, y2, y3⟩ := cut_l1_loop (r1 := r1) (r2 := r2) (r3 := r3) cs _ (m1.pass1 c) _ (some (.int (c : Int))) h3 (wf_pass1 wf ok_non) (fun j hj => hc j (List.mem_cons_of_mem _ hj))
    refine ⟨p4, x', G', ?_, y1, y2, f3.trans y3⟩
    simp only at ih
    have eb : b_Memory_cut_R_l1 [some (.obj x.M), r1, r2, r3, some (.int (c : Int))] G = .next [some (.obj x.M), r1, r2, r3, some (.int (c : Int))] ((G ++ [Ob.lst [.non]]).set x.TR (Ob.lst ((x.ts.set c G.length).map Val.obj))) := by
      unfold b_Memory_cut_R_l1
      simp [mf_tr h', p, -List.map_set]
    rw [List.map_cons, v_forCons]
    simp only [pt_nm, List.set_cons_succ, List.set_cons_zero]
    rw [eb]
    exact ih
end
section
variable {x : Mx} {m : Me} {G : Store} {c : Nat}
theorem foldl_cutStep {ch : List Int} {f : Nat} : ∀ (cs : List Nat) (m : Me), (cs.foldl (Me.cutStep ch f) m).t = m.t ∧ (cs.foldl (Me.cutStep ch f) m).w = m.w ∧ (cs.foldl (Me.cutStep ch f) m).r = m.r ∧ (cs.foldl (Me.cutStep ch f) m).count = m.count ∧ (cs.foldl (Me.cutStep ch f) m).rows = m.rows
  | [], m => ⟨rfl, rfl, rfl, rfl, rfl⟩
  | c :: cs, m => by
    have e : (Me.cutStep ch f m c).t = m.t ∧ (Me.cutStep ch f m c).w = m.w ∧ (Me.cutStep ch f m c).r = m.r ∧ (Me.cutStep ch f m c).count = m.count ∧ (Me.cutStep ch f m c).rows = m.rows := by
      unfold Me.cutStep Me.keep1
      cases ch[c - f]? <;> exact ⟨rfl, rfl, rfl, rfl, rfl⟩
    obtain ⟨a1, a2, a3, a4, a5⟩ := foldl_cutStep (ch := ch) (f := f) cs (Me.cutStep ch f m c)
    rw [List.foldl_cons]
    exact ⟨a1.trans e.1, a2.trans e.2.1, a3.trans e.2.2.1, a4.trans e.2.2.2.1, a5.trans e.2.2.2.2⟩
theorem foldl_pass1 : ∀ (cs : List Nat) (m : Me), (cs.foldl Me.pass1 m).t = m.t ∧ (cs.foldl Me.pass1 m).w = m.w ∧ (cs.foldl Me.pass1 m).r = m.r ∧ (cs.foldl Me.pass1 m).count = m.count ∧ (cs.foldl Me.pass1 m).rows = m.rows
  | [], m => ⟨rfl, rfl, rfl, rfl, rfl⟩
  | c :: cs, m => foldl_pass1 cs (m.pass1 c)
theorem cutL_same {ch : List Int} : (m.cutL ch).t = m.t ∧ (m.cutL ch).w = m.w ∧ (m.cutL ch).r = m.r ∧ (m.cutL ch).count = m.count ∧ (m.cutL ch).rows = m.rows := foldl_cutStep _ _
theorem cutP_same : m.cutP.t = m.t ∧ m.cutP.w = m.w ∧ m.cutP.r = m.r ∧ m.cutP.count = m.count ∧ m.cutP.rows = m.rows := foldl_pass1 _ _
theorem cutL_cells {ch : List Int} : (m.cutL ch).cells = m.cells := by
  obtain ⟨a, b, c, _⟩ := cutL_same (m := m) (ch := ch)
  unfold Me.cells
  rw [a, b, c]
theorem cutP_cells : m.cutP.cells = m.cells := by
  obtain ⟨a, b, c, _⟩ := cutP_same (m := m)
  unfold Me.cells
  rw [a, b, c]
/-- new notes for all -/
theorem MemAt.notesNew (h : MemAt x m G) {t : Nat} {G1 : Store} (e : G1 = G ++ List.replicate t (Ob.dic []) ++ [Ob.lst ((List.range' G.length t).map Val.obj)]) :
    MemAt { x with N := G.length + t, ns := List.range' G.length t } { m with notes := List.replicate t [] } (G1.set x.M (.ins 1 [.obj x.L, .int (m.count : Int), .obj x.R, .obj x.TR, .obj (G.length + t)])) ∧ Fr x G { x with N := G.length + t, ns := List.range' G.length t } (G1.set x.M (.ins 1 [.obj x.L, .int (m.count : Int), .obj x.R, .obj x.TR, .obj (G.length + t)])) := by
  have n := h.ne
  have hM : x.M < G.length := (List.getElem?_eq_some_iff.mp h.mem).1
  have l1 : G1.length = G.length + t + 1 := by rw [e]; simp; omega
  have k : ∀ j, j ≠ x.M → j < G.length → (G1.set x.M (.ins 1 [.obj x.L, .int (m.count : Int), .obj x.R, .obj x.TR, .obj (G.length + t)]))[j]? = G[j]? := fun j hj hl => by
    rw [List.getElem?_set_ne (Ne.symm hj), e, List.append_assoc, List.getElem?_append_left hl]
  have lt := h.lt
  have ow : ∀ {j : Nat}, (j = x.M ∨ j = x.R ∨ j = x.TR ∨ j = x.N ∨ j ∈ x.ts ∨ j ∈ x.ns) → j < G.length := fun hj => lt _ (by unfold Mx.own; simpa using hj)
  refine ⟨⟨?_, ?_, ?_, ?_, ?_, ?_, ?_, ?_⟩, rfl, rfl, fun j h1 h2 => k j (fun z => h2 (by unfold Mx.own; rw [z]; simp)) h1, by rw [List.length_set]; omega, fun j hj => ?_⟩
  · rw [List.getElem?_set_self (by omega)]
  · show _ = _
    rw [k _ n.LM h.ltL]; exact h.lay
  · rw [k _ (Ne.symm n.MR) (ow (.inr (.inl rfl)))]; exact h.rows
  · rw [k _ (Ne.symm n.MT) (ow (.inr (.inr (.inl rfl))))]; exact h.tr
  · exact h.trs.stay fun q hq => k q (fun z => n.Mt (z ▸ hq)) (ow (.inr (.inr (.inr (.inr (.inl hq))))))
  · rw [List.getElem?_set_ne (by simp only; omega), e, List.getElem?_append_right (by simp)]
    simp
  · refine (objs_rep (e := dcO) (a := []) t G [Ob.lst ((List.range' G.length t).map Val.obj)]).stay fun o ho => ?_
    have := List.mem_range'.mp ho
    rw [List.getElem?_set_ne (by omega), e]
    rfl
  · have q1 : ∀ j ∈ List.range' G.length t, G.length ≤ j ∧ j < G.length + t := fun j hj => by
      have := List.mem_range'.mp hj
      omega
    have h0 := h.nd
    unfold Mx.own at h0 ⊢
    simp only [List.nodup_cons, List.mem_cons, List.mem_append, not_or, List.nodup_append] at h0 ⊢
    obtain ⟨⟨a1, a2, a3, a4, a5, a6⟩, ⟨b2, b3, b4, b5, b6⟩, ⟨c3, c4, c5, c6⟩, ⟨d4, d5, d6⟩, ⟨e5, e6⟩, f1, f2, f3⟩ := h0
    have lL := h.ltL
    have lR := ow (.inr (.inl rfl))
    have lT := ow (.inr (.inr (.inl rfl)))
    have lt' : ∀ j ∈ x.ts, j < G.length := fun j hj => ow (.inr (.inr (.inr (.inr (.inl hj)))))
    refine ⟨⟨a1, a2, a3, by omega, a5, fun z => ?_⟩, ⟨b2, b3, by omega, b5, fun z => ?_⟩, ⟨c3, by omega, c5, fun z => ?_⟩, ⟨by omega, d5, fun z => ?_⟩, ⟨fun z => ?_, fun z => ?_⟩, f1, List.nodup_range', fun a ha b hb ee => ?_⟩
    all_goals first
      | (have := lt' _ z; omega)
      | (have := q1 _ z; omega)
      | (have h1 := lt' _ ha; have h2 := q1 _ hb; omega)
  · unfold Mx.own at hj ⊢
    simp only [List.mem_cons, List.mem_append] at hj ⊢
    rcases hj with hj | hj | hj | hj | hj | hj
    · exact .inl (.inl hj)
    · exact .inl (.inr (.inl hj))
    · exact .inl (.inr (.inr (.inl hj)))
    · exact .inr (by omega)
    · exact .inl (.inr (.inr (.inr (.inr (.inl hj)))))
    · have := List.mem_range'.mp hj
      exact .inr (by omega)
theorem cut_checks {ch : List Int} {r0 r3 r4 : Option Val} (hch : ∀ s ∈ ch, 0 ≤ s) : ∀ (l : List Int) (o2 : Option Val), (∀ s ∈ l, 0 ≤ s) → ∃ p2, forIt (.nm 2) b_Memory_cut_R_l3 (l.map Val.int) [r0, some (.fro (ch.map .int)), o2, r3, r4] G = .next [r0, some (.fro (ch.map .int)), p2, r3, r4] G
  | [], o2, _ => ⟨o2, rfl⟩
  | s :: l, o2, hl => by
    have h0 := hl s (List.mem_cons_self ..)
    obtain ⟨p2, ih⟩ := cut_checks (r0 := r0) (r3 := r3) (r4 := r4) hch l (some (.int s)) (fun j hj => hl j (List.mem_cons_of_mem _ hj))
    refine ⟨p2, ?_⟩
    have hn : ¬ s < 0 := by omega
    have eb : b_Memory_cut_R_l3 [r0, some (.fro (ch.map .int)), some (.int s), r3, r4] G = .next [r0, some (.fro (ch.map .int)), some (.int s), r3, r4] G := by
      unfold b_Memory_cut_R_l3
      simp [isTy, hn]
    rw [List.map_cons, v_forCons]
    simp only [pt_nm, List.set_cons_succ, List.set_cons_zero]
    rw [eb]
    exact ih
theorem s_cut (h : MemAt x m G) (wf : m.Wf) (ht : m.t ≤ 3) {ch : List Int} (hch : ∀ s ∈ ch, 0 ≤ s) : ∃ x' G', m_Memory_cut_R [.obj x.M, .fro (ch.map .int)] G = .ok .non G' ∧ MemAt x' (m.cut ch) G' ∧ (m.cut ch).Wf ∧ Fr x G x' G' := by
  have cb := wf.cb
  obtain ⟨p2, k1⟩ := cut_checks (G := G) (r0 := some (.obj x.M)) (r3 := none) (r4 := none) hch ch none hch
  obtain ⟨p4, x1, G1, k2, h1, w1, f1⟩ := cut_l2_loop (m := m) (ch := ch) (r0 := p2) ht (List.range' (1 + m.t) (m.cells - (1 + m.t))) x m G none h wf rfl rfl (fun c hc => by
    have := List.mem_range'.mp hc
    omega)
  have cc := cutL_cells (m := m) (ch := ch)
  have cs := cutL_same (m := m) (ch := ch)
  have hcc : 1 + m.t ≤ m.cells := by unfold Me.cells; omega
  obtain ⟨q4, x2, G2, k3, h2, w2, f2⟩ := cut_l1_loop (r1 := some (.fro (ch.map .int))) (r2 := p2) (r3 := some (.int ((1 + m.t : Nat) : Int))) (List.range' 0 (1 + m.t)) x1 (m.cutL ch) G1 p4 h1 w1 (fun c hc => by
    have := List.mem_range'.mp hc
    show c < (m.cutL ch).cells
    rw [cc]
    omega)
  have eP : (List.range' 0 (1 + m.t)).foldl Me.pass1 (m.cutL ch) = (m.cutL ch).cutP := by unfold Me.cutP; rw [cs.1]
  rw [eP] at h2 w2
  generalize hm2 : (m.cutL ch).cutP = m2 at h2 w2
  have tm2 : m2.t = m.t := by rw [← hm2, cutP_same.1, cs.1]
  have cm2 : m2.cells = m.cells := by rw [← hm2, cutP_cells, cc]
  have hct : 0 < x2.ts.length := by rw [h2.trs.len, w2.len, cm2]; omega
  have h' := h2.app (J := [.lst [.int 0]])
  obtain ⟨h3, f3⟩ := h2.new (c := 0) (l := [.int 0]) hct
  have w3 := wf_pass1 (c := 0) w2 (ok_int (i := 0))
  have p := putA_lst (G := G2 ++ [.lst [.int 0]]) (i := x2.TR) (k := 0) (w := .obj G2.length) h'.tr (by rw [List.length_map]; exact hct)
  have em : (x2.ts.map Val.obj).set 0 (.obj G2.length) = (x2.ts.set 0 G2.length).map Val.obj := by rw [List.map_set]
  rw [em] at p
  generalize hG3 : (G2 ++ [Ob.lst [.int 0]]).set x2.TR (Ob.lst ((x2.ts.set 0 G2.length).map Val.obj)) = G3 at h3 f3 p
  have nn := s_no_notes h3.mem h3.lay (by show m2.t ≤ 1000; omega)
  obtain ⟨h4, f4⟩ := h3.notesNew (t := m2.t) rfl
  have ft := f1.trans (f2.trans (f3.trans f4))
  have sf := setFld_at (p := 4) (v := .obj (G3.length + m2.t)) (h3.app (J := List.replicate m2.t (Ob.dic []) ++ [Ob.lst ((List.range' G3.length m2.t).map Val.obj)])).mem (by simp)
  simp only [List.length_cons, List.length_nil] at sf
  rw [if_pos (by decide), ← List.append_assoc] at sf
  have e0 : ∀ G, m_Layout_epoch [.obj x.L] G = .ok (.int 0) G := fun G => by
    unfold m_Layout_epoch b_Layout_epoch
    rw [runT_eq (by rfl)]
    simp [trunc_d0]
  have ecut : m.cut ch = { m2 with trails := m2.trails.set 0 [.int 0], notes := List.replicate m2.t [] } := by unfold Me.cut; rw [hm2]
  rw [ecut]
  refine ⟨_, _, ?_, h4, ⟨w3.len, w3.ne, w3.val, w3.tl, ?_, fun d hd => ?_, w3.rl, fun d hd => ?_, w3.cb⟩, ft⟩
  rotate_left
  · show (List.replicate m2.t ([] : Prs)).length = m2.t
    rw [List.length_replicate]
  · rw [List.eq_of_mem_replicate (show d ∈ List.replicate m2.t ([] : Prs) from hd)]
    exact List.nodup_nil
  · rw [List.eq_of_mem_replicate (show d ∈ List.replicate m2.t ([] : Prs) from hd)]
    intro k hk
    cases hk
  · have M2 : x2.M = x.M := by rw [f2.M, f1.M]
    have L2 : x2.L = x.L := by rw [f2.L, f1.L]
    have s1 := s_call_slot h.lay (i := 0)
    have s2 := s_cells h.lay
    have c1 : 1 + (m.t : Int) + 0 = ((1 + m.t : Nat) : Int) := by simp
    have c2 : (1 + 2 * (m.t : Int) + (m.w : Int) + (m.r : Int)) = (m.cells : Int) := by unfold Me.cells; simp
    rw [c1] at s1
    rw [c2] at s2
    have rg2 := rng2_nat (a := 1 + m.t) (b := m.cells) (by omega) (by omega)
    have rg1 := rng1_nat (n := 1 + m.t) (by omega)
    have y0 := mf_lay h2
    have y1 := mf_tr h'
    have y2 := mf_lay h'
    have y3 := h2.lay
    have y4 := h'.lay
    have y5 := h3.mem
    simp only [M2, L2, f1.M] at y0 y1 y2 y3 y4 y5 nn sf k3
    have p' : putA (.obj x2.TR) (.int 0) (.obj G2.length) (G2 ++ [.lst [.int 0]]) = some G3 := p
    unfold m_Memory_cut_R b_Memory_cut_R
    rw [run_eq (by rfl)]
    simp [isTy, k1, mf_lay h, methV_1 h.lay, s1, s2, rg2, k2, rg1, k3, y1, y2, methV_1 y4, e0, p', methV_1 y5, nn, sf, M2, L2, -Int.natCast_add, -List.map_set, -List.append_assoc]
end
end Dk

namespace Dk
open PySem R1
/-! ### law k02: the law's own lists -/
structure Wx where
  D : Nat
  TR : Nat
  N : Nat
  vs : List Val
  ns : List Nat
def Wx.own (y : Wx) : List Nat := y.D :: y.TR :: y.N :: y.ns
def itE (G : Store) (v : Val) (l : List Val) : Prop := v = .fro l ∨ ∃ o, v = .obj o ∧ G[o]? = some (.lst l)
abbrev wDic (TR N : Nat) (cnt : Nat) : Ob := .dic [(.inr 17, .int (cnt : Int)), (.inr 15, .obj TR), (.inr 16, .obj N)]
structure W2 (x : Mx) (y : Wx) (T : List (List Val)) (N : List Prs) (cnt : Nat) (G : Store) : Prop where
  dic : G[y.D]? = some (wDic y.TR y.N cnt)
  tr : G[y.TR]? = some (.lst y.vs)
  tl : y.vs.length = T.length
  its : ∀ (i : Nat) (v : Val) (l : List Val), y.vs[i]? = some v → T[i]? = some l → itE G v l
  no : G[y.N]? = some (.lst (y.ns.map .obj))
  nos : Objs dcO G y.ns N
  nd : y.own.Nodup
  ap : ∀ j ∈ y.own, Ap x G j
  ao : ∀ o, Val.obj o ∈ y.vs → Ap x G o ∧ o ∉ y.own
section
variable {x x' : Mx} {y : Wx} {m : Me} {G G' : Store} {T : List (List Val)} {N : List Prs} {cnt c : Nat} {l : List Val} {v w : Val}
theorem itE.stay (h : itE G v l) (k : ∀ o, v = .obj o → G'[o]? = G[o]?) : itE G' v l := by
  rcases h with h | ⟨o, h1, h2⟩
  · exact .inl h
  · exact .inr ⟨o, h1, by rw [k o h1]; exact h2⟩
theorem itE.items (h : itE G v l) : itemsOf G v = some l ∧ lstOf G v = some l := by
  rcases h with rfl | ⟨o, rfl, h2⟩
  · exact ⟨rfl, rfl⟩
  · exact ⟨items_obj h2, lst_obj h2⟩
/-- all stays but what is told -/
theorem W2.stay (h : W2 x y T N cnt G) (ax : ∀ j, Ap x G j → Ap x' G' j) (k : ∀ j, j ∈ y.own ∨ Val.obj j ∈ y.vs → G'[j]? = G[j]?) : W2 x' y T N cnt G' := by
  have kd := k y.D (.inl (by simp [Wx.own]))
  have kt := k y.TR (.inl (by simp [Wx.own]))
  have kn := k y.N (.inl (by simp [Wx.own]))
  exact ⟨by rw [kd]; exact h.dic, by rw [kt]; exact h.tr, h.tl, fun i v l h1 h2 => (h.its i v l h1 h2).stay fun o ho => k o (.inr (by rw [← ho]; exact List.mem_of_getElem? h1)), by rw [kn]; exact h.no, h.nos.stay fun o ho => k o (.inl (by simp [Wx.own, ho])), h.nd, fun j hj => ax j (h.ap j hj), fun o ho => ⟨ax o (h.ao o ho).1, (h.ao o ho).2⟩⟩
theorem W2.fr (h : W2 x y T N cnt G) (f : Fr x G x' G') : W2 x' y T N cnt G' := h.stay (fun j a => (a.fr f).1) fun j hj => by
  rcases hj with hj | hj
  · exact ((h.ap j hj).fr f).2
  · exact ((h.ao j hj).1.fr f).2
theorem Ap.app2 {j : Nat} (a : Ap x G j) {J : Store} : Ap x (G ++ J) j := ⟨by rw [List.length_append]; have := a.lt; omega, a.own, a.L⟩
theorem W2.lt (h : W2 x y T N cnt G) : ∀ j, j ∈ y.own ∨ Val.obj j ∈ y.vs → j < G.length := fun j hj => by
  rcases hj with hj | hj
  · exact (h.ap j hj).lt
  · exact (h.ao j hj).1.lt
theorem W2.app (h : W2 x y T N cnt G) {J : Store} : W2 x y T N cnt (G ++ J) := h.stay (fun j a => a.app2) fun j hj => by rw [List.getElem?_append_left (h.lt j hj)]
/-- the pieces of nodup -/
theorem W2.ne (h : W2 x y T N cnt G) : (y.D ≠ y.TR ∧ y.D ≠ y.N ∧ y.D ∉ y.ns) ∧ (y.TR ≠ y.N ∧ y.TR ∉ y.ns) ∧ y.N ∉ y.ns ∧ y.ns.Nodup := by
  have := h.nd
  unfold Wx.own at this
  simpa [List.nodup_cons, not_or] using this
/-- a trail is another one now -/
theorem W2.put {J : Store} (h : W2 x y T N cnt G) (hc : c < T.length) (hw : itE (G ++ J) w l) (ho : ∀ o, w = .obj o → Ap x (G ++ J) o ∧ o ∉ y.own) : W2 x { y with vs := y.vs.set c w } (T.set c l) N cnt ((G ++ J).set y.TR (.lst (y.vs.set c w))) := by
  have h' := h.app (J := J)
  obtain ⟨⟨d1, d2, d3⟩, ⟨t1, t2⟩, n1, n2⟩ := h.ne
  have k : ∀ j, j ≠ y.TR → ((G ++ J).set y.TR (.lst (y.vs.set c w)))[j]? = (G ++ J)[j]? := fun j hj => List.getElem?_set_ne (Ne.symm hj)
  have nt : ∀ o, o ∉ y.own → o ≠ y.TR := fun o ho z => ho (by rw [z]; simp [Wx.own])
  refine ⟨by rw [k _ d1]; exact h'.dic, ?_, by rw [List.length_set, List.length_set]; exact h.tl, fun i v l' h1 h2 => ?_, by rw [k _ (Ne.symm t1)]; exact h'.no, h'.nos.stay fun o ho => k o fun z => t2 (z ▸ ho), h.nd, fun j hj => (h'.ap j hj).set, fun o hm => ?_⟩
  · rw [List.getElem?_set_self (h'.lt y.TR (.inl (by simp [Wx.own])))]
  · by_cases hi : i = c
    · subst hi
      rw [List.getElem?_set_self (by rw [h.tl]; exact hc)] at h1
      rw [List.getElem?_set_self hc] at h2
      cases h1
      cases h2
      exact hw.stay fun o e => k o (nt o (ho o e).2)
    · rw [List.getElem?_set_ne (Ne.symm hi)] at h1 h2
      exact (h'.its i v l' h1 h2).stay fun o e => k o (nt o (h.ao o (by rw [← e]; exact List.mem_of_getElem? h1)).2)
  · rcases List.mem_or_eq_of_mem_set hm with h3 | h3
    · exact ⟨(h'.ao o h3).1.set, (h'.ao o h3).2⟩
    · exact ⟨(ho o h3.symm).1.set, (ho o h3.symm).2⟩
/-- the parts, read -/
theorem lookS {G : Store} {i : Nat} {d : List (Ky × Val)} {s : Nat} (h : G[i]? = some (.dic d)) (e : lookK d (.inr s) = some w) : fIx (.obj i) (.str s) G = .ok w G := by
  refine fIx_dic (d := d) (dic_obj h) ?_ rfl e
  unfold itemsOf
  dsimp only
  rw [h]
theorem W2.f15 (h : W2 x y T N cnt G) : fIx (.obj y.D) (.str 15) G = .ok (.obj y.TR) G := lookS h.dic rfl
theorem W2.f16 (h : W2 x y T N cnt G) : fIx (.obj y.D) (.str 16) G = .ok (.obj y.N) G := lookS h.dic rfl
theorem W2.f17 (h : W2 x y T N cnt G) : fIx (.obj y.D) (.str 17) G = .ok (.int (cnt : Int)) G := lookS h.dic rfl
theorem W2.at_ (h : W2 x y T N cnt G) (hl : T[c]? = some l) : ∃ v, fIx (.obj y.TR) (.int (c : Int)) G = .ok v G ∧ itE G v l ∧ y.vs[c]? = some v := by
  have hc : c < y.vs.length := by rw [h.tl]; exact (List.getElem?_eq_some_iff.mp hl).1
  have e : y.vs[c]? = some y.vs[c] := List.getElem?_eq_getElem hc
  exact ⟨y.vs[c], fIx_lobj h.tr e, h.its c _ l e hl, e⟩
theorem fIx_lastI (h : itemsOf G v = some l) (e : l.getLast? = some w) : fIx v (.int (-1)) G = .ok w G := by
  unfold fIx orF fIxS
  simp only [h, atL_last, e]
theorem fIx_0I {r : List Val} (h : itemsOf G v = some (w :: r)) : fIx v (.int 0) G = .ok w G := fIx_at (k := 0) h rfl
theorem bLenI (h : itemsOf G v = some l) : bLen [v] G = .ok (.int l.length) G := by
  unfold bLen
  cases v with
  | obj i =>
    simp only [h]
  | fro k =>
    cases h
    rfl
  | tup k =>
    cases h
    rfl
  | scr k =>
    cases h
    rfl
  | _ => cases h
end
/-! ### law k02: the law's shorten, give -/
structure Fw (y : Wx) (G : Store) (y' : Wx) (G' : Store) : Prop where
  D : y'.D = y.D
  off : ∀ j, j < G.length → j ∉ y.own → G'[j]? = G[j]?
  len : G.length ≤ G'.length
  own : ∀ j ∈ y'.own, j ∈ y.own ∨ G.length ≤ j
section
variable {x x' : Mx} {y y' y2 : Wx} {m : Me} {G G' G2 : Store} {T : List (List Val)} {N : List Prs} {cnt c k : Nat} {l : List Val} {v w : Val}
theorem Fw.refl : Fw y G y G := ⟨rfl, fun _ _ _ => rfl, Nat.le_refl _, fun _ h => .inl h⟩
theorem Fw.trans (a : Fw y G y' G') (b : Fw y' G' y2 G2) : Fw y G y2 G2 :=
  ⟨b.D.trans a.D, fun j h1 h2 => (b.off j (Nat.lt_of_lt_of_le h1 a.len) fun z => (a.own j z).elim h2 fun q => absurd h1 (Nat.not_lt.mpr q)).trans (a.off j h1 h2), Nat.le_trans a.len b.len, fun j h => (b.own j h).elim (a.own j) fun q => .inr (Nat.le_trans a.len q)⟩
theorem Fw.mem (h : MemAt x m G) (w : W2 x y T N cnt G) (f : Fw y G y' G') : MemAt x m G' := h.stay fun j hj => by
  have lt : j < G.length := by
    rcases hj with rfl | hj
    · exact h.ltL
    · exact h.lt j hj
  refine f.off j lt fun z => ?_
  have a := w.ap j z
  rcases hj with rfl | hj
  · exact a.L rfl
  · exact a.own hj
theorem ap_new (h : MemAt x m G) {j : Nat} {J : Store} (h1 : G.length ≤ j) (h2 : j < (G ++ J).length) : Ap x (G ++ J) j := ⟨h2, fun h' => absurd (h.lt _ h') (Nat.not_lt.mpr h1), fun h' => absurd h.ltL (by rw [← h']; exact Nat.not_lt.mpr h1)⟩
theorem Fw.put {J : Store} (h : W2 x y T N cnt G) : Fw y G { y with vs := y.vs.set c w } ((G ++ J).set y.TR (.lst (y.vs.set c w))) :=
  ⟨rfl, fun j h1 h2 => by rw [List.getElem?_set_ne fun z => h2 (by rw [← z]; simp [Wx.own]), List.getElem?_append_left h1], by rw [List.length_set, List.length_append]; omega, fun j hj => .inl hj⟩
/-- a trail is a frozen list now -/
theorem W2.fro (h : W2 x y T N cnt G) (hc : c < T.length) : ∃ y' G', putA (.obj y.TR) (.int (c : Int)) (.fro l) G = some G' ∧ W2 x y' (T.set c l) N cnt G' ∧ Fw y G y' G' := by
  have p := putA_lst (k := c) (w := .fro l) h.tr (by rw [h.tl]; exact hc)
  have a := h.put (J := []) (w := .fro l) (l := l) hc (.inl rfl) fun o z => by cases z
  have b := Fw.put (J := []) (c := c) (w := .fro l) h
  rw [List.append_nil] at a b
  exact ⟨_, _, p, a, b⟩
/-- a trail is a new list now -/
theorem W2.new (hm : MemAt x m G) (h : W2 x y T N cnt G) (hc : c < T.length) : ∃ y' G', putA (.obj y.TR) (.int (c : Int)) (.obj G.length) (G ++ [.lst l]) = some G' ∧ W2 x y' (T.set c l) N cnt G' ∧ Fw y G y' G' ∧ y'.N = y.N ∧ y'.ns = y.ns := by
  have h' := h.app (J := [.lst l])
  have p := putA_lst (k := c) (w := .obj G.length) h'.tr (by rw [h.tl]; exact hc)
  refine ⟨_, _, p, h.put (J := [.lst l]) (w := .obj G.length) (l := l) hc (.inr ⟨_, rfl, by simp⟩) fun o z => ?_, Fw.put (J := [.lst l]) h, rfl, rfl⟩
  cases z
  exact ⟨ap_new hm (Nat.le_refl _) (by simp), fun z => absurd (h.ap _ z).lt (Nat.lt_irrefl _)⟩
theorem s_lgive (h : W2 x y T N cnt G) (hl : T[c]? = some l) (hb : l.length ≤ 100000) : ∃ y' G', m__law_give [.obj y.D, .int (c : Int), v] G = .ok .non G' ∧ W2 x y' (T.set c (if c < 3 then [v] else l ++ [v])) N cnt G' ∧ Fw y G y' G' := by
  have hc := (List.getElem?_eq_some_iff.mp hl).1
  unfold m__law_give b__law_give
  rw [run_eq (by rfl)]
  by_cases h3 : c < 3
  · obtain ⟨y', G', e, a, b⟩ := h.fro (l := [v]) hc
    refine ⟨y', G', ?_, by rw [if_pos h3]; exact a, b⟩
    have h3' : (c : Int) < 3 := by omega
    simp [h3', h3, h.f15, e]
  · obtain ⟨y', G', e, a, b⟩ := h.fro (l := l ++ [v]) hc
    refine ⟨y', G', ?_, by rw [if_neg h3]; exact a, b⟩
    obtain ⟨u, e1, e2, _⟩ := h.at_ hl
    have fa : fAdd true u (.fro [v]) G = .ok (.fro (l ++ [v])) G := by
      unfold fAdd orF
      have i1 : fAddI u (.fro [v]) G = .bad := by
        rcases e2 with rfl | ⟨o, rfl, _⟩ <;> rfl
      have fc : fCat true u (.fro [v]) G = .ok (.fro (l ++ [v])) G := by
        unfold fCat
        simp only [e2.items.2, lst_fro]
        rw [if_pos (small_line (by simp; omega))]
        rfl
      rw [i1]
      simp only [fc]
    have h3' : ¬ (c : Int) < 3 := by omega
    simp [h3', h3, h.f15, e1, fa, e]
theorem len_shD2 {d : Prs} : (shD c k d).length = d.length := by
  have a : (Keys (shD c k d)).length = (Keys d).length := by rw [keys_shD]
  unfold Keys at a
  rw [List.length_map, List.length_map] at a
  exact a
theorem l1_same : b__law_shorten_l1 = b_Memory_shorten_l1 := rfl
theorem notes_loop2 {r0 : Val} {nl : Nat} {ns : List Nat} (nd : (nl :: ns).Nodup) : ∀ (fuel : List Val) (t : Nat) (o3 : Option Val) (N1 : List Prs) (G : Store), G[nl]? = some (.lst (ns.map .obj)) → Objs dcO G ns N1 → fuel.length + t = ns.length → (∀ d ∈ N1, d.length ≤ 5000) →
    ∃ p3 G', forOb (.nm 3) b_Memory_shorten_l1 nl fuel t [some r0, some (.int (c : Int)), some (.int (k : Int)), o3] G = .next [some r0, some (.int (c : Int)), some (.int (k : Int)), p3] G' ∧ Objs dcO G' ns (N1.take t ++ (N1.drop t).map (shD c k)) ∧ (∀ j, j ∉ ns → G'[j]? = G[j]?) ∧ G'.length = G.length
  | [], t, o3, N1, G, hN, ho, hf, hd => by
    simp at hf
    have hl := ho.len
    refine ⟨o3, G, ?_, ?_, fun _ _ => rfl, rfl⟩
    · unfold forOb
      simp only [hN, List.length_map]
      rw [if_pos (by omega)]
    · rw [List.take_of_length_le (by omega), List.drop_of_length_le (by omega)]
      simpa using ho
  | z :: fuel, t, o3, N1, G, hN, ho, hf, hd => by
    simp only [List.length_cons] at hf
    have hl := ho.len
    have htn : t < N1.length := by omega
    obtain ⟨o, e1, e2⟩ := ho.get (List.getElem?_eq_getElem htn)
    have om := List.mem_of_getElem? e1
    have oN : o ≠ nl := fun z => (List.nodup_cons.mp nd).1 (z ▸ om)
    have hN' : (ns.map Val.obj)[t]? = some (.obj o) := by rw [List.getElem?_map, e1]; rfl
    have hdl := hd _ (List.getElem_mem htn)
    have hi := fInA_dobj (neg := false) (k := (c : Int)) e2
    rw [look_kvE] at hi
    have dr : N1.drop t = N1[t] :: N1.drop (t + 1) := List.drop_eq_getElem_cons htn
    have step : ∀ (N2 : List Prs) (G2 : Store), Objs dcO G2 ns N2 → G2[nl]? = some (.lst (ns.map .obj)) → (∀ j, j ∉ ns → G2[j]? = G[j]?) → G2.length = G.length → N2 = N1.set t (shD c k N1[t]) → b_Memory_shorten_l1 [some r0, some (.int (c : Int)), some (.int (k : Int)), some (.obj o)] G = .next [some r0, some (.int (c : Int)), some (.int (k : Int)), some (.obj o)] G2 →
        ∃ p3 G', forOb (.nm 3) b_Memory_shorten_l1 nl (z :: fuel) t [some r0, some (.int (c : Int)), some (.int (k : Int)), o3] G = .next [some r0, some (.int (c : Int)), some (.int (k : Int)), p3] G' ∧ Objs dcO G' ns (N1.take t ++ (N1.drop t).map (shD c k)) ∧ (∀ j, j ∉ ns → G'[j]? = G[j]?) ∧ G'.length = G.length := by
      intro N2 G2 h1 h2 h3 h4 h5 eb
      obtain ⟨p3, G', a1, a2, a3, a4⟩ := notes_loop2 nd fuel (t + 1) (some (.obj o)) N2 G2 h2 h1 (by omega) (fun d hd' => by
        rw [h5] at hd'
        rcases List.mem_or_eq_of_mem_set hd' with h | rfl
        · exact hd d h
        · rw [len_shD2]; exact hdl)
      refine ⟨p3, G', ?_, ?_, fun j hj => (a3 j hj).trans (h3 j hj), a4.trans h4⟩
      · unfold forOb
        simp only [hN, hN']
        unfold turn1
        simp only [pt_nm, List.set_cons_succ, List.set_cons_zero]
        rw [eb]
        exact a1
      · have : N2.take (t + 1) ++ (N2.drop (t + 1)).map (shD c k) = N1.take t ++ (N1.drop t).map (shD c k) := by
          rw [h5, dr, List.map_cons, List.drop_set_of_lt (by omega), List.take_set, List.take_succ_eq_append_getElem htn, List.set_append_right _ _ (by simp; omega)]
          simp [Nat.min_eq_left (Nat.le_of_lt htn)]
        rw [← this]
        exact a2
    cases e4 : lookA N1[t] (c : Int) with
    | none =>
      rw [e4] at hi
      have es : shD c k N1[t] = N1[t] := by unfold shD; rw [e4]
      refine step N1 G ho hN (fun _ _ => rfl) rfl (by rw [es, List.set_getElem_self]) ?_
      unfold b_Memory_shorten_l1
      simp at hi
      simp [hi]
    | some a =>
      rw [e4] at hi
      have es : shD c k N1[t] = putL N1[t] (c : Int) (if a - (k : Int) > 0 then a - (k : Int) else 0) := by unfold shD; rw [e4]
      have x1 : fIx (.obj o) (.int (c : Int)) G = .ok (.int a) G := fIx_dobj e2 (by rw [look_kvE, e4]; rfl)
      have p := putA_dic (k := (c : Int)) (w := .int (if a - (k : Int) > 0 then a - (k : Int) else 0)) e2 (by rw [length_kvE]; omega)
      rw [put_kvE (e := Val.int), ← es] at p
      have ol := (List.getElem?_eq_some_iff.mp e2).1
      refine step _ (G.set o (.dic (kvE Val.int (shD c k N1[t])))) (ho.put (List.nodup_cons.mp nd).2 e1 (fun q _ hq => List.getElem?_set_ne (Ne.symm hq)) (by rw [List.getElem?_set_self ol])) (by rw [List.getElem?_set_ne oN]; exact hN) (fun j hj => List.getElem?_set_ne fun (z : o = j) => hj (z ▸ om)) (List.length_set ..) rfl ?_
      unfold b_Memory_shorten_l1
      simp at hi
      simp only [gt_iff_lt, Int.sub_pos] at p
      simp [hi, x1, p]
/-- how far -/
def cutNl (l : List Val) (s : Int) : Nat := (if (if (l.length : Int) - 1 < s then (l.length : Int) - 1 else s) > 0 then (if (l.length : Int) - 1 < s then (l.length : Int) - 1 else s) else 0).toNat
def nnN (N : List Prs) : Prop := ∀ d ∈ N, ∀ k a, lookA d k = some a → 0 ≤ a
theorem putL_same {d : Prs} {k v : Int} (nd : (Keys d).Nodup) (h : lookA d k = some v) : putL d k v = d := by
  have key : ∀ {d : Prs}, (Keys d).Nodup → lookA d k = some v → d.map (fun q => if q.1 = k then (q.1, v) else q) = d := by
    intro d
    induction d with
    | nil => intro _ _; rfl
    | cons q d ih =>
      intro nd h
      obtain ⟨n1, n2⟩ := List.nodup_cons.mp nd
      rw [lookA_cons] at h
      by_cases hk : q.1 = k
      · rw [if_pos hk] at h
        cases h
        rw [List.map_cons, if_pos hk]
        congr 1
        refine (List.map_congr_left fun p hp => ?_).trans (List.map_id _)
        rw [if_neg fun z => n1 (List.mem_map.mpr ⟨p, hp, z.trans hk.symm⟩)]
        rfl
      · rw [if_neg hk] at h
        rw [List.map_cons, if_neg hk, ih n2 h]
  have hm : k ∈ Keys d := Decidable.byContradiction fun z => by rw [lookA_none.mpr z] at h; cases h
  unfold putL
  rw [if_pos]
  · exact key nd h
  · obtain ⟨q, hq, e⟩ := List.mem_map.mp hm
    exact List.any_eq_true.mpr ⟨q, hq, decide_eq_true e⟩
theorem shD_0 {d : Prs} (h : ∀ k a, lookA d k = some a → 0 ≤ a) (nd : (Keys d).Nodup) : shD c 0 d = d := by
  unfold shD
  cases e : lookA d (c : Int) with
  | none => rfl
  | some a =>
    have := h _ _ e
    show putL d (c : Int) _ = d
    have e2 : (if a - ((0 : Nat) : Int) > 0 then a - ((0 : Nat) : Int) else 0) = a := by split <;> omega
    rw [e2]
    exact putL_same nd e
theorem s_lshorten (hm : MemAt x m G) (h : W2 x y T N cnt G) (hl : T[c]? = some l) (hne : l ≠ []) (hd : ∀ d ∈ N, d.length ≤ 5000 ∧ (Keys d).Nodup) (hn : nnN N) {s : Int} : ∃ y' G', m__law_shorten [.obj y.D, .int (c : Int), .int s] G = .ok .non G' ∧ W2 x y' (T.set c (l.drop (cutNl l s))) (N.map (shD c (cutNl l s))) cnt G' ∧ Fw y G y' G' := by
  have hc := (List.getElem?_eq_some_iff.mp hl).1
  obtain ⟨u, e1, e2, _⟩ := h.at_ hl
  have ln := bLenI e2.items.1
  unfold m__law_shorten b__law_shorten
  rw [run_eq (by rfl)]
  generalize hn' : (if (l.length : Int) - 1 < s then (l.length : Int) - 1 else s) = n
  have mi : ∀ G, bMin [.int s, .int ((l.length : Int) - 1)] G = .ok (.int n) G := fun G => by rw [bMin_ii, hn']
  by_cases h0 : 0 < n
  · obtain ⟨k, rfl⟩ : ∃ k : Nat, n = (k : Int) := ⟨n.toNat, by omega⟩
    have ek : cutNl l s = k := by
      unfold cutNl
      rw [hn', if_pos h0]
      omega
    rw [ek]
    have h' := h.app (J := [.lst (l.drop k)])
    obtain ⟨y1, G1, p, w1, f1, g1, g2⟩ := h.new (l := l.drop k) hm hc
    have sl : fSl false u (some (k : Int)) none G = .ok (.obj G.length) (G ++ [.lst (l.drop k)]) := by
      unfold fSl
      simp only [e2.items.2, cut_drop, mkL_f]
      rcases e2 with rfl | ⟨o, rfl, _⟩ <;> rfl
    have nd1 := w1.ne
    obtain ⟨p3, G2, a1, a2, a3, a4⟩ := notes_loop2 (c := c) (k := k) (r0 := .obj y.D) (nl := y1.N) (ns := y1.ns) (List.nodup_cons.mpr ⟨nd1.2.2.1, nd1.2.2.2⟩) (y1.ns.map .obj) 0 none N G1 w1.no w1.nos (by simp) (fun d hd' => (hd d hd').1)
    rw [List.take_zero, List.drop_zero, List.nil_append] at a2
    have lt1 : ∀ j ∈ y1.ns, j < G1.length := fun j hj => (w1.ap j (by simp [Wx.own, hj])).lt
    have w2 : W2 x y1 (T.set c (l.drop k)) (N.map (shD c k)) cnt G2 := by
      refine ⟨by rw [a3 _ nd1.1.2.2]; exact w1.dic, by rw [a3 _ nd1.2.1.2]; exact w1.tr, w1.tl, fun i v l h1 h2 => (w1.its i v l h1 h2).stay fun o ho => a3 o fun z => (w1.ao o (by rw [← ho]; exact List.mem_of_getElem? h1)).2 (by simp [Wx.own, z]), by rw [a3 _ nd1.2.2.1]; exact w1.no, a2, w1.nd, fun j hj => ?_, fun o ho => ?_⟩
      · have := w1.ap j hj
        exact ⟨by rw [a4]; exact this.lt, this.own, this.L⟩
      · obtain ⟨b1, b2⟩ := w1.ao o ho
        exact ⟨⟨by rw [a4]; exact b1.lt, b1.own, b1.L⟩, b2⟩
    have f2 : Fw y1 G1 y1 G2 := ⟨rfl, fun j h1 h2 => a3 j fun z => h2 (by simp [Wx.own, z]), by rw [a4]; exact Nat.le_refl _, fun j hj => .inl hj⟩
    refine ⟨y1, G2, ?_, w2, f1.trans f2⟩
    have f15' := h'.f15
    have f16 := w1.f16
    rw [f1.D] at f16
    have hno := w1.no
    rw [← l1_same] at a1
    have h0' : ¬ ((k : Int) = 0) := by omega
    simp only [Int.natCast_pos] at h0
    simp [h.f15, e1, ln, mi, h0, sl, f15', p, f16, hno, a1]
  · have ek : cutNl l s = 0 := by
      unfold cutNl
      rw [hn', if_neg h0]
      rfl
    rw [ek]
    refine ⟨y, G, ?_, ?_, Fw.refl⟩
    · simp [h.f15, e1, ln, mi, h0]
    · have t1 : T.set c (l.drop 0) = T := by
        obtain ⟨hc', e3⟩ := List.getElem?_eq_some_iff.mp hl
        rw [List.drop_zero, ← e3, List.set_getElem_self]
      have t2 : N.map (shD c 0) = N := by
        have : ∀ d ∈ N, shD c 0 d = d := fun d hd' => shD_0 (hn d hd') (hd d hd').2
        exact (List.map_congr_left this).trans (List.map_id _)
      rw [t1, t2]
      exact h
end
/-! ### law k02: what is due -/
section
variable {x x' : Mx} {y y' y2 : Wx} {m mm : Me} {G G' G2 : Store} {T : List (List Val)} {N : List Prs} {cnt c k th : Nat} {l : List Val} {v w : Val}
theorem nn_shD {d : Prs} (h : ∀ k a, lookA d k = some a → 0 ≤ a) : ∀ j a, lookA (shD c k d) j = some a → 0 ≤ a := by
  intro j a ha
  unfold shD at ha
  cases e : lookA d (c : Int) with
  | none => rw [e] at ha; exact h j a ha
  | some b =>
    rw [e] at ha
    have ha : lookA (putL d (c : Int) (if b - (k : Int) > 0 then b - (k : Int) else 0)) j = some a := ha
    rw [lookA_putL] at ha
    split at ha
    · cases ha
      split <;> omega
    · exact h j a ha
theorem nn_map (h : nnN N) : nnN (N.map (shD c k)) := fun d hd => by
  obtain ⟨d0, h0, rfl⟩ := List.mem_map.mp hd
  exact nn_shD (h d0 h0)
theorem cutN_eq {s : Int} : mm.cutN c s = cutNl (mm.tr c) s := rfl
theorem tr_get (wf : mm.Wf) (hc : c < mm.cells) : mm.trails[c]? = some (mm.tr c) ∧ mm.tr c ≠ [] := by
  have hl : c < mm.trails.length := by rw [wf.len]; exact hc
  have e := List.getElem?_eq_getElem hl
  have e2 : mm.tr c = mm.trails[c] := by unfold Me.tr; rw [e]; rfl
  exact ⟨by rw [e, e2], by rw [e2]; exact wf.ne _ (List.getElem_mem hl)⟩
/-- shorten, as the memory has it -/
theorem w_shorten (hm : MemAt x m G) (h : W2 x y mm.trails mm.notes cnt G) (wf : mm.Wf) (hn : nnN mm.notes) (hc : c < mm.cells) {s : Int} : ∃ y' G', m__law_shorten [.obj y.D, .int (c : Int), .int s] G = .ok .non G' ∧ W2 x y' (mm.shorten c s).trails (mm.shorten c s).notes cnt G' ∧ Fw y G y' G' :=
  s_lshorten hm h (tr_get wf hc).1 (tr_get wf hc).2 (fun d hd => ⟨wf.hnd d hd, wf.nk d hd⟩) hn
theorem w_give (h : W2 x y mm.trails mm.notes cnt G) (wf : mm.Wf) (ht : mm.t = 2) (hc : c < mm.cells) (hz : mm.count ≤ 90000) : ∃ y' G', m__law_give [.obj y.D, .int (c : Int), v] G = .ok .non G' ∧ W2 x y' (mm.give c v).trails (mm.give c v).notes cnt G' ∧ Fw y G y' G' := by
  obtain ⟨e1, e2⟩ := tr_get wf hc
  have hl := wf.tl _ (List.mem_of_getElem? e1)
  obtain ⟨y', G', a, b, d⟩ := s_lgive (v := v) h e1 (by omega)
  refine ⟨y', G', a, ?_, d⟩
  have : (mm.give c v).trails = mm.trails.set c (if c < 3 then [v] else mm.tr c ++ [v]) := by
    unfold Me.give
    show mm.trails.set c _ = _
    congr 1
    unfold Me.last
    rw [ht]
    by_cases h3 : c < 3
    · rw [if_pos h3, if_neg (by simp; omega)]
    · rw [if_neg h3, if_pos (by simp; omega)]
  rw [this]
  exact b
/-- a thread's notes are empty -/
theorem W2.noteNew (hm : MemAt x m G) (h : W2 x y T N cnt G) (hth : th < N.length) : ∃ G', putA (.obj y.N) (.int (th : Int)) (.obj G.length) (G ++ [.dic []]) = some G' ∧ W2 x { y with ns := y.ns.set th G.length } T (N.set th []) cnt G' ∧ Fw y G { y with ns := y.ns.set th G.length } G' := by
  have h' := h.app (J := [Ob.dic []])
  obtain ⟨⟨d1, d2, d3⟩, ⟨t1, t2⟩, n1, n2⟩ := h.ne
  have hns : th < y.ns.length := by rw [h.nos.len]; exact hth
  have p := putA_lst (k := th) (w := .obj G.length) h'.no (by rw [List.length_map]; exact hns)
  have em : (y.ns.map Val.obj).set th (.obj G.length) = (y.ns.set th G.length).map Val.obj := by rw [List.map_set]
  rw [em] at p
  have lt := h.lt
  have k : ∀ j, j ≠ y.N → ((G ++ [Ob.dic []]).set y.N (.lst ((y.ns.set th G.length).map .obj)))[j]? = (G ++ [Ob.dic []])[j]? := fun j hj => List.getElem?_set_ne (Ne.symm hj)
  have gl : ∀ j, j ∈ y.own → j ≠ G.length := fun j hj => by have := lt j (.inl hj); omega
  have nN : G.length ≠ y.N := fun z => gl y.N (by simp [Wx.own]) z.symm
  have mem_set : ∀ j, j ∈ y.ns.set th G.length → j ∈ y.ns ∨ j = G.length := fun j hj => (List.mem_or_eq_of_mem_set hj).imp id id
  refine ⟨_, p, ⟨by rw [k _ d2]; exact h'.dic, by rw [k _ t1]; exact h'.tr, h.tl, fun i v l h1 h2 => (h'.its i v l h1 h2).stay fun o ho => k o fun z => (h.ao o (by rw [← ho]; exact List.mem_of_getElem? h1)).2 (by rw [z]; simp [Wx.own]), ?_, ?_, ?_, fun j hj => ?_, fun o ho => ?_⟩, ⟨rfl, fun j h1 h2 => ?_, by simp, fun j hj => ?_⟩⟩
  · rw [List.getElem?_set_self (by have := lt y.N (.inl (by simp [Wx.own])); simp; omega)]
  · refine h'.nos.new hns (fun q hq => k q fun z => n1 (z ▸ hq)) ?_
    rw [k _ nN]
    simp [kvE]
  · show (y.D :: y.TR :: y.N :: y.ns.set th G.length).Nodup
    refine List.nodup_cons.mpr ⟨fun z => ?_, List.nodup_cons.mpr ⟨fun z => ?_, List.nodup_cons.mpr ⟨fun z => ?_, nodup_set n2 fun z => gl _ (by simp [Wx.own, z]) rfl⟩⟩⟩
    · simp only [List.mem_cons] at z
      rcases z with z | z | z
      · exact d1 z
      · exact d2 z
      · rcases mem_set _ z with z | z
        · exact d3 z
        · exact gl _ (by simp [Wx.own]) z
    · simp only [List.mem_cons] at z
      rcases z with z | z
      · exact t1 z
      · rcases mem_set _ z with z | z
        · exact t2 z
        · exact gl _ (by simp [Wx.own]) z
    · rcases mem_set _ z with z | z
      · exact n1 z
      · exact gl _ (by simp [Wx.own]) z
  · have hj : j ∈ y.D :: y.TR :: y.N :: y.ns.set th G.length := hj
    simp only [List.mem_cons] at hj
    have old : j ∈ y.own → Ap x ((G ++ [Ob.dic []]).set y.N (.lst ((y.ns.set th G.length).map .obj))) j := fun z => (h'.ap j z).set
    rcases hj with z | z | z | z
    · exact old (by rw [z]; simp [Wx.own])
    · exact old (by rw [z]; simp [Wx.own])
    · exact old (by rw [z]; simp [Wx.own])
    · rcases mem_set _ z with z | z
      · exact old (by simp [Wx.own, z])
      · rw [z]
        exact (ap_new hm (Nat.le_refl _) (by simp)).set
  · obtain ⟨a1, a2⟩ := h.ao o ho
    refine ⟨a1.app2.set, fun z => ?_⟩
    have z : o ∈ y.D :: y.TR :: y.N :: y.ns.set th G.length := z
    simp only [List.mem_cons] at z
    rcases z with z | z | z | z
    · exact a2 (by rw [z]; simp [Wx.own])
    · exact a2 (by rw [z]; simp [Wx.own])
    · exact a2 (by rw [z]; simp [Wx.own])
    · rcases mem_set _ z with z | z
      · exact a2 (by simp [Wx.own, z])
      · have := a1.lt; omega
  · rw [k j fun z => h2 (by rw [z]; simp [Wx.own]), List.getElem?_append_left h1]
  · have hj : j ∈ y.D :: y.TR :: y.N :: y.ns.set th G.length := hj
    simp only [List.mem_cons] at hj
    rcases hj with z | z | z | z
    · exact .inl (by rw [z]; simp [Wx.own])
    · exact .inl (by rw [z]; simp [Wx.own])
    · exact .inl (by rw [z]; simp [Wx.own])
    · rcases mem_set _ z with z | z
      · exact .inl (by simp [Wx.own, z])
      · exact .inr (by omega)
/-- a thread's notes are changed -/
theorem W2.note (h : W2 x y T N cnt G) {o : Nat} {d : Prs} (e : y.ns[th]? = some o) : W2 x y T (N.set th d) cnt (G.set o (.dic (kvE Val.int d))) ∧ Fw y G y (G.set o (.dic (kvE Val.int d))) := by
  obtain ⟨⟨d1, d2, d3⟩, ⟨t1, t2⟩, n1, n2⟩ := h.ne
  have om := List.mem_of_getElem? e
  have ol := h.lt o (.inl (by simp [Wx.own, om]))
  have k : ∀ j, j ≠ o → (G.set o (Ob.dic (kvE Val.int d)))[j]? = G[j]? := fun j hj => List.getElem?_set_ne (Ne.symm hj)
  exact ⟨⟨by rw [k y.D fun z => d3 (z ▸ om)]; exact h.dic, by rw [k y.TR fun z => t2 (z ▸ om)]; exact h.tr, h.tl, fun i v l h1 h2 => (h.its i v l h1 h2).stay fun p hp => k p fun z => (h.ao p (by rw [← hp]; exact List.mem_of_getElem? h1)).2 (by rw [z]; simp [Wx.own, om]), by rw [k y.N fun z => n1 (z ▸ om)]; exact h.no, h.nos.put n2 e (fun q _ hq => k q hq) (by rw [List.getElem?_set_self ol]), h.nd, fun j hj => (h.ap j hj).set, fun p hp => ⟨(h.ao p hp).1.set, (h.ao p hp).2⟩⟩,
    ⟨rfl, fun j h1 h2 => k j fun z => h2 (by rw [z]; simp [Wx.own, om]), by rw [List.length_set]; exact Nat.le_refl _, fun j hj => .inl hj⟩⟩
/-- a fence: the walk -/
theorem due_loop {d : Prs} {r1 r2 r3 r5 : Option Val} : ∀ (ks : List Int) (y : Wx) (mm : Me) (G : Store) (o4 : Option Val), MemAt x m G → W2 x y mm.trails mm.notes cnt G → mm.Wf → nnN mm.notes → (∀ k ∈ ks, k ∈ Keys d ∧ ∃ c : Nat, k = (c : Int) ∧ c < mm.cells) →
    ∃ p4 y' G', forIt (.nm 4) b__law_due_l1 (ks.map Val.int) [some (.obj y.D), r1, r2, r3, o4, r5, some (.frd (kvE Val.int d))] G = .next [some (.obj y.D), r1, r2, r3, p4, r5, some (.frd (kvE Val.int d))] G' ∧ MemAt x m G' ∧ W2 x y' (ks.foldl (Me.fenceS d) mm).trails (ks.foldl (Me.fenceS d) mm).notes cnt G' ∧ Fw y G y' G' ∧ nnN (ks.foldl (Me.fenceS d) mm).notes
  | [], y, mm, G, o4, hm, h, wf, hn, hk => ⟨o4, y, G, rfl, hm, h, Fw.refl, hn⟩
  | k :: ks, y, mm, G, o4, hm, h, wf, hn, hk => by
    obtain ⟨hkd, c, rfl, hc⟩ := hk k (List.mem_cons_self ..)
    obtain ⟨v, ev⟩ : ∃ v, lookA d (c : Int) = some v := Option.ne_none_iff_exists'.mp fun z => lookA_none.mp z hkd
    obtain ⟨y1, G1, e1, w1, f1⟩ := w_shorten (s := v) hm h wf hn hc
    have hm1 := f1.mem hm h
    obtain ⟨p4, y', G', ih, a1, a2, a3, a4⟩ := due_loop (d := d) (r1 := r1) (r2 := r2) (r3 := r3) (r5 := r5) ks y1 (mm.shorten c v) G1 (some (.int (c : Int))) hm1 w1 (wf_shorten wf hc) (nn_map hn) (fun j hj => hk j (List.mem_cons_of_mem _ hj))
    have es : Me.fenceS d mm (c : Int) = mm.shorten c v := by
      unfold Me.fenceS
      rw [ev]
      rfl
    rw [f1.D] at ih
    refine ⟨p4, y', G', ?_, a1, by rw [List.foldl_cons, es]; exact a2, f1.trans a3, by rw [List.foldl_cons, es]; exact a4⟩
    have i1 : fIx (.frd (kvE Val.int d)) (.int (c : Int)) G = .ok (.int v) G := fIx_frd (by rw [look_kvE, ev]; rfl)
    have eb : b__law_due_l1 [some (.obj y.D), r1, r2, r3, some (.int (c : Int)), r5, some (.frd (kvE Val.int d))] G = .next [some (.obj y.D), r1, r2, r3, some (.int (c : Int)), r5, some (.frd (kvE Val.int d))] G1 := by
      unfold b__law_due_l1
      simp [i1, e1]
    rw [List.map_cons, v_forCons]
    simp only [pt_nm, List.set_cons_succ, List.set_cons_zero]
    rw [eb]
    exact ih
theorem bSortX_frd {d : Prs} (hl : d.length < 64) : bSortX [.frd (kvE Val.int d)] G = .ok (.fro ((sortI (Keys d)).map Val.int)) G := by
  have e1 : bSortL [.frd (kvE Val.int d)] G = .bad := by
    unfold bSortL itemsL lstOf
    rfl
  have e2 : bSortD [.frd (kvE Val.int d)] G = .ok (.fro ((sortI (Keys d)).map Val.int)) G := by
    unfold bSortD
    have : dicOf G (.frd (kvE Val.int d)) = some (kvE Val.int d) := rfl
    simp only [this, Option.bind, intKeys_kvE]
    rw [if_pos (by rw [List.length_map]; exact hl)]
  unfold bSortX orF1 bSortA orF1
  rw [e1]
  simp only [e2]
/-- the value that is due -/
def Me.due (m : Me) (th : Nat) (q : Rq) : Val := match q with
  | .fence => .non
  | q => ((m.tick th q).res th q).1
theorem s_due (hm : MemAt x m G) (h : W2 x y m.trails m.notes (m.count + 1) G) (wf : m.Wf) (hn : nnN m.notes) (ht : m.t = 2) (hz : m.count ≤ 80000) {q : Rq} (hq : q.ok m) (hth : th < 2) (h64 : ∀ d ∈ m.notes, d.length < 64) :
    ∃ y' G', m__law_due [.obj y.D, .int (th : Int), q.val] G = .ok (m.due th q) G' ∧ W2 x y' (m.accA th q).2.trails (m.accA th q).2.notes (m.count + 1) G' ∧ Fw y G y' G' ∧ nnN (m.accA th q).2.notes := by
  have hthn : th < m.notes.length := by rw [wf.nl, ht]; exact hth
  have wt := wf_tick wf (th := th) (q := q)
  unfold m__law_due b__law_due
  rw [run_eq (by rfl)]
  have it : ∀ c, c < m.cells → ∃ u, fIx (.obj y.TR) (.int (c : Int)) G = .ok u G ∧ fIx u (.int (-1)) G = .ok (m.cur c) G ∧ bLen [u] G = .ok (.int ((m.tr c).length : Int)) G ∧ okV (m.cur c) := fun c hc => by
    obtain ⟨e1, e2⟩ := tr_get wf hc
    obtain ⟨e6, e7⟩ := cur_at wf hc e1
    obtain ⟨u, a1, a2, _⟩ := h.at_ e1
    exact ⟨u, a1, fIx_lastI a2.items.1 e6, bLenI a2.items.1, e7⟩
  cases q with
  | read c =>
    obtain ⟨u, a1, a2, _, _⟩ := it c hq
    refine ⟨y, G, ?_, h, Fw.refl, hn⟩
    simp only [Rq.val, Me.due, Me.res]
    simp [h.f15, a1, a2]
    rfl
  | write c v =>
    obtain ⟨u, a1, a2, _, _⟩ := it c hq.1
    obtain ⟨y', G', e, w1, f1⟩ := w_give (v := v) h wf ht hq.1 (by omega)
    refine ⟨y', G', ?_, w1, f1, hn⟩
    simp only [Rq.val, Me.due, Me.res]
    simp [h.f15, a1, a2, e]
  | swap c a b =>
    obtain ⟨u, a1, a2, _, a4⟩ := it c hq.1
    have ne := fNe_ok (G := G) a4 hq.2.1
    by_cases hs : sameV (m.cur c) a = true
    · obtain ⟨y', G', e, w1, f1⟩ := w_give (v := b) h wf ht hq.1 (by omega)
      have ea : (m.accA th (.swap c a b)).2 = (m.tick th (.swap c a b)).give c b := by
        show (if sameV (m.cur c) a = true then (Val.bl true, (m.tick th (.swap c a b)).give c b) else (Val.bl false, m.tick th (.swap c a b))).2 = _
        rw [if_pos hs]
      have ed : m.due th (.swap c a b) = .bl true := by
        show (if sameV (m.cur c) a = true then (Val.bl true, (m.tick th (.swap c a b)).give c b) else (Val.bl false, m.tick th (.swap c a b))).1 = _
        rw [if_pos hs]
      rw [ea, ed]
      refine ⟨y', G', ?_, w1, f1, hn⟩
      simp only [Rq.val]
      simp [h.f15, a1, a2, ne, hs, e]
    · have ea : (m.accA th (.swap c a b)).2 = (m.tick th (.swap c a b)) := by
        show (if sameV (m.cur c) a = true then (Val.bl true, (m.tick th (.swap c a b)).give c b) else (Val.bl false, m.tick th (.swap c a b))).2 = _
        rw [if_neg hs]
      have ed : m.due th (.swap c a b) = .bl false := by
        show (if sameV (m.cur c) a = true then (Val.bl true, (m.tick th (.swap c a b)).give c b) else (Val.bl false, m.tick th (.swap c a b))).1 = _
        rw [if_neg hs]
      rw [ea, ed]
      refine ⟨y, G, ?_, h, Fw.refl, hn⟩
      simp only [Rq.val]
      simp [h.f15, a1, a2, ne, hs]
  | decide c v =>
    obtain ⟨u, a1, a2, _, a4⟩ := it c hq.1
    have ne := fNe_ok (G := G) a4 (ok_int (i := 0))
    by_cases hs : sameV (m.cur c) (.int 0) = true
    · obtain ⟨y', G', e, w1, f1⟩ := w_give (v := .tup [v, .int ((m.count + 1 : Nat) : Int)]) h wf ht hq.1 (by omega)
      have ea : (m.accA th (.decide c v)).2 = (m.tick th (.decide c v)).give c (.tup [v, .int ((m.count + 1 : Nat) : Int)]) := by
        show (if sameV (m.cur c) (.int 0) = true then (Val.bl true, (m.tick th (.decide c v)).give c (.tup [v, .int ((m.count + 1 : Nat) : Int)])) else (Val.bl false, m.tick th (.decide c v))).2 = _
        rw [if_pos hs]
      have ed : m.due th (.decide c v) = .bl true := by
        show (if sameV (m.cur c) (.int 0) = true then (Val.bl true, (m.tick th (.decide c v)).give c (.tup [v, .int ((m.count + 1 : Nat) : Int)])) else (Val.bl false, m.tick th (.decide c v))).1 = _
        rw [if_pos hs]
      have f17 := h.f17
      rw [ea, ed]
      refine ⟨y', G', ?_, w1, f1, hn⟩
      simp only [Rq.val]
      generalize ((m.count + 1 : Nat) : Int) = ci at e f17
      simp [h.f15, a1, a2, ne, hs, f17, e]
    · have ea : (m.accA th (.decide c v)).2 = (m.tick th (.decide c v)) := by
        show (if sameV (m.cur c) (.int 0) = true then (Val.bl true, (m.tick th (.decide c v)).give c (.tup [v, .int ((m.count + 1 : Nat) : Int)])) else (Val.bl false, m.tick th (.decide c v))).2 = _
        rw [if_neg hs]
      have ed : m.due th (.decide c v) = .bl false := by
        show (if sameV (m.cur c) (.int 0) = true then (Val.bl true, (m.tick th (.decide c v)).give c (.tup [v, .int ((m.count + 1 : Nat) : Int)])) else (Val.bl false, m.tick th (.decide c v))).1 = _
        rw [if_neg hs]
      rw [ea, ed]
      refine ⟨y, G, ?_, h, Fw.refl, hn⟩
      simp only [Rq.val]
      simp [h.f15, a1, a2, ne, hs]
  | flush c =>
    obtain ⟨u, a1, a2, a3, _⟩ := it c hq.1
    obtain ⟨o, e1, e2⟩ := h.nos.get (List.getElem?_eq_getElem hthn)
    have en : m.notes[th]?.getD [] = m.notes[th] := by rw [List.getElem?_eq_getElem hthn]; rfl
    have fx : fIx (.obj y.N) (.int (th : Int)) G = .ok (.obj o) G := fIx_lobj h.no (by rw [List.getElem?_map, e1]; rfl)
    obtain ⟨w1, f1⟩ := h.note (d := putL m.notes[th] (c : Int) (((m.tr c).length : Int) - 1)) e1
    have hdl := wf.hnd _ (List.getElem_mem hthn)
    have pt := putA_dic (k := (c : Int)) (w := .int (((m.tr c).length : Int) - 1)) e2 (by rw [length_kvE]; omega)
    rw [put_kvE (e := Val.int)] at pt
    have ea : (m.accA th (.flush c)).2.notes = m.notes.set th (putL m.notes[th] (c : Int) (((m.tr c).length : Int) - 1)) := by
      show m.notes.set th (putL (m.notes[th]?.getD []) _ _) = _
      rw [en]
      rfl
    have hnm : ∀ d ∈ m.notes.set th (putL m.notes[th] (c : Int) (((m.tr c).length : Int) - 1)), ∀ j a, lookA d j = some a → 0 ≤ a := fun d hd j a ha => by
      rcases List.mem_or_eq_of_mem_set hd with h1 | rfl
      · exact hn d h1 j a ha
      · rw [lookA_putL] at ha
        split at ha
        · cases ha
          have := List.length_pos_iff.mpr (tr_get wf hq.1).2
          omega
        · exact hn _ (List.getElem_mem hthn) j a ha
    refine ⟨y, _, ?_, by rw [ea]; exact w1, f1, by rw [ea]; exact hnm⟩
    simp only [Rq.val, Me.due, Me.res]
    simp [h.f15, a1, a2, a3, h.f16, fx, pt]
  | fence =>
    obtain ⟨o, e1, e2⟩ := h.nos.get (List.getElem?_eq_getElem hthn)
    have en : m.notes[th]?.getD [] = m.notes[th] := by rw [List.getElem?_eq_getElem hthn]; rfl
    have fx : fIx (.obj y.N) (.int (th : Int)) G = .ok (.obj o) G := fIx_lobj h.no (by rw [List.getElem?_map, e1]; rfl)
    obtain ⟨G1, p, w1, f1⟩ := h.noteNew hm hthn
    have hm1 := f1.mem hm h
    have hdl := h64 _ (List.getElem_mem hthn)
    have n0 : nnN ({ m.tick th .fence with notes := m.notes.set th [] } : Me).notes := fun d hd => by
      rcases List.mem_or_eq_of_mem_set (show d ∈ m.notes.set th [] from hd) with h1 | rfl
      · exact hn d h1
      · intro j a ha; cases ha
    obtain ⟨p4, y', G', lo, a1, a2, a3, a4⟩ := due_loop (m := m) (cnt := m.count + 1) (d := m.notes[th]) (r1 := some (.int (th : Int))) (r2 := some (.tup [.str 7])) (r3 := some (.str 7)) (r5 := none) (sortI (Keys m.notes[th])) _ { m.tick th .fence with notes := m.notes.set th [] } G1 none hm1 w1 (wf_clear wt) n0 (fun k hk => by
      have hk' := (sortI_perm _).mem_iff.mp hk
      obtain ⟨c, ec, hc, _⟩ := wf.nc _ (List.getElem_mem hthn) k hk'
      exact ⟨hk', c, ec, hc⟩)
    have ef : (m.accA th .fence).2 = (sortI (Keys m.notes[th])).foldl (Me.fenceS m.notes[th]) { m.tick th .fence with notes := m.notes.set th [] } := by
      show (m.tick th .fence).fence th = _
      unfold Me.fence
      have : (m.tick th .fence).notes[th]?.getD [] = m.notes[th] := en
      rw [this]
      rfl
    rw [ef]
    refine ⟨y', G', ?_, a2, f1.trans a3, a4⟩
    have bd : bDictX true [.obj o] G = .ok (.frd (kvE Val.int m.notes[th])) G := by
      unfold bDictX orF1 bDict
      simp only [dic_obj e2, mkD_t]
    have so := fun G => bSortX_frd (G := G) hdl
    have f16' := (h.app (J := [Ob.dic []])).f16
    simp only [Rq.val, Me.due]
    generalize (sortI (Keys m.notes[th])).map Val.int = kl at so lo
    generalize kvE Val.int m.notes[th] = dl at bd so lo
    simp [h.f16, fx, bd, f16', p, so, lo]
end
/-! ### law k02: the law's cut -/
section
variable {x x' : Mx} {y y' y2 : Wx} {m mm : Me} {G G' G2 : Store} {T : List (List Val)} {N : List Prs} {cnt c k th : Nat} {l : List Val} {v w : Val} {ch : List Int}
theorem nn_cutStep {f : Nat} (h : nnN mm.notes) : nnN (Me.cutStep ch f mm c).notes := by
  unfold Me.cutStep
  show nnN (match ch[c - f]? with | some s => mm.shorten c s | none => mm).notes
  cases ch[c - f]? with
  | none => exact h
  | some s => exact nn_map h
theorem lcut_loop : ∀ (cs : List Nat) (y : Wx) (mm : Me) (G : Store) (o2 : Option Val), MemAt x m G → W2 x y mm.trails mm.notes cnt G → mm.Wf → nnN mm.notes → (∀ c ∈ cs, 3 ≤ c ∧ c < mm.cells) →
    ∃ p2 y' G', forIt (.nm 2) b__law_cut_l1 (cs.map fun (k : Nat) => Val.int (k : Int)) [some (.obj y.D), some (.fro (ch.map .int)), o2] G = .next [some (.obj y.D), some (.fro (ch.map .int)), p2] G' ∧ MemAt x m G' ∧ W2 x y' (cs.foldl (Me.cutStep ch 3) mm).trails (cs.foldl (Me.cutStep ch 3) mm).notes cnt G' ∧ Fw y G y' G'
  | [], y, mm, G, o2, hm, h, wf, hn, hc => ⟨o2, y, G, rfl, hm, h, Fw.refl⟩
  | c :: cs, y, mm, G, o2, hm, h, wf, hn, hc => by
    obtain ⟨hc1, hc2⟩ := hc c (List.mem_cons_self ..)
    have sub : fSub (.int (c : Int)) (.int 3) G = .ok (.int ((c - 3 : Nat) : Int)) G := by
      show Res.ok (Val.int ((c : Int) - 3)) G = _
      have : (c : Int) - 3 = ((c - 3 : Nat) : Int) := by omega
      rw [this]
    obtain ⟨m2, y2, G2, ef, w2, wf2, f2, em2, ec2⟩ : ∃ (m2 : Me) (y2 : Wx) (G2 : Store), sIf (eTest (eOp fLt (eOp fSub (eVar 2) (eC (.int 3))) (eCall bLen (aCons (eVar 1) aNil)))) (sEx (eCallF m__law_shorten [] (aCons (eVar 0) (aCons (eVar 2) (aCons (eOp fIx (eVar 1) (eOp fSub (eVar 2) (eC (.int 3)))) aNil))))) sPass [some (.obj y.D), some (.fro (ch.map .int)), some (.int (c : Int))] G = .next [some (.obj y.D), some (.fro (ch.map .int)), some (.int (c : Int))] G2 ∧ W2 x y2 m2.trails m2.notes cnt G2 ∧ m2.Wf ∧ Fw y G y2 G2 ∧ (m2 = match ch[c - 3]? with | some s => mm.shorten c s | none => mm) ∧ m2.cells = mm.cells := by
      cases e : ch[c - 3]? with
      | none =>
        have hl : ¬ (((c - 3 : Nat) : Int) < (ch.length : Int)) := by
          have := List.getElem?_eq_none_iff.mp e
          omega
        refine ⟨mm, y, G, ?_, h, wf, Fw.refl, rfl, rfl⟩
        simp [sub, hl, -fSub_ii, -Int.natCast_add]
      | some s =>
        have hl : (((c - 3 : Nat) : Int) < (ch.length : Int)) := by
          have := (List.getElem?_eq_some_iff.mp e).1
          omega
        obtain ⟨y', G', e3, z1, z2⟩ := w_shorten (s := s) hm h wf hn hc2
        refine ⟨mm.shorten c s, y', G', ?_, z1, wf_shorten wf hc2, z2, rfl, rfl⟩
        have i1 : fIx (.fro (ch.map .int)) (.int ((c - 3 : Nat) : Int)) G = .ok (.int s) G := fIx_at (k := c - 3) rfl (by rw [List.getElem?_map, e]; rfl)
        simp [sub, hl, i1, e3, -fSub_ii, -Int.natCast_add]
    have hcc2 : c < m2.cells := by rw [ec2]; exact hc2
    have hm2 := f2.mem hm h
    obtain ⟨q1, q2⟩ := tr_get wf2 hcc2
    obtain ⟨u, u1, u2, _⟩ := w2.at_ q1
    have sl : fSl false u none (some 1) G2 = .ok (.obj G2.length) (G2 ++ [.lst ((m2.tr c).take 1)]) := by
      have := cut_take (l := m2.tr c) (n := 1)
      unfold fSl
      simp only [u2.items.2]
      rw [show (some (1 : Int)) = some ((1 : Nat) : Int) from rfl, this, mkL_f]
      rcases u2 with rfl | ⟨o, rfl, _⟩ <;> rfl
    obtain ⟨y3, G3, p, w3, f3, _, _⟩ := w2.new (l := (m2.tr c).take 1) hm2 (List.getElem?_eq_some_iff.mp q1).1
    have hm3 := f3.mem hm2 w2
    have es : Me.cutStep ch 3 mm c = m2.keep1 c := by
      cases e : ch[c - 3]? with
      | none =>
        simp only [e] at em2
        simp only [Me.cutStep, e, em2]
      | some s =>
        simp only [e] at em2
        simp only [Me.cutStep, e, em2]
    have nn1 : nnN (m2.keep1 c).notes := by
      rw [← es]
      exact nn_cutStep hn
    obtain ⟨p2, y', G', ih, a1, a2, a3⟩ := lcut_loop cs y3 (m2.keep1 c) G3 (some (.int (c : Int))) hm3 w3 (wf_keep1 wf2 hcc2) nn1 (fun j hj => by
      obtain ⟨b1, b2⟩ := hc j (List.mem_cons_of_mem _ hj)
      exact ⟨b1, by show j < m2.cells; rw [ec2]; exact b2⟩)
    rw [f3.D, f2.D] at ih
    refine ⟨p2, y', G', ?_, a1, by rw [List.foldl_cons, es]; exact a2, (f2.trans f3).trans a3⟩
    have f15 := w2.f15
    have f15' := (w2.app (J := [Ob.lst ((m2.tr c).take 1)])).f15
    rw [f2.D] at f15 f15'
    have eb : b__law_cut_l1 [some (.obj y.D), some (.fro (ch.map .int)), some (.int (c : Int))] G = .next [some (.obj y.D), some (.fro (ch.map .int)), some (.int (c : Int))] G3 := by
      unfold b__law_cut_l1
      rw [v_seq, ef]
      simp [f15, u1, sl, f15', p, -Int.natCast_add, -List.map_set]
    rw [List.map_cons, v_forCons]
    simp only [pt_nm, List.set_cons_succ, List.set_cons_zero]
    rw [eb]
    exact ih
theorem putA_dicS {i s : Nat} {d : List (Ky × Val)} (h : G[i]? = some (.dic d)) (hl : d.length ≤ 100000) : putA (.obj i) (.str s) w G = some (G.set i (.dic (putKy d (.inr s) w))) := by
  unfold putA
  rw [isDic_obj h]
  dsimp only [keyOf]
  rw [if_pos (small_lt (by omega))]
/-- all notes are new -/
theorem W2.notesNew (hm : MemAt x m G) (h : W2 x y T N cnt G) : ∃ G', putA (.obj y.D) (.str 16) (.obj (G.length + 2)) (G ++ [.dic [], .dic [], .lst [.obj G.length, .obj (G.length + 1)]]) = some G' ∧ W2 x { y with N := G.length + 2, ns := [G.length, G.length + 1] } T [[], []] cnt G' ∧ Fw y G { y with N := G.length + 2, ns := [G.length, G.length + 1] } G' := by
  have h' := h.app (J := [.dic [], .dic [], .lst [.obj G.length, .obj (G.length + 1)]])
  have p := putA_dicS (s := 16) (w := .obj (G.length + 2)) h'.dic (by simp)
  have ed : putKy [((.inr 17 : Ky), Val.int (cnt : Int)), (.inr 15, .obj y.TR), (.inr 16, .obj y.N)] (.inr 16) (.obj (G.length + 2)) = [(.inr 17, .int (cnt : Int)), (.inr 15, .obj y.TR), (.inr 16, .obj (G.length + 2))] := rfl
  rw [ed] at p
  obtain ⟨⟨d1, d2, d3⟩, ⟨t1, t2⟩, n1, n2⟩ := h.ne
  have lD := h.lt y.D (.inl (by simp [Wx.own]))
  have lT := h.lt y.TR (.inl (by simp [Wx.own]))
  generalize hG1 : G ++ [Ob.dic [], .dic [], .lst [.obj G.length, .obj (G.length + 1)]] = G1 at p h'
  have l1 : G1.length = G.length + 3 := by rw [← hG1]; simp
  have k : ∀ j, j ≠ y.D → (G1.set y.D (wDic y.TR (G.length + 2) cnt))[j]? = G1[j]? := fun j hj => List.getElem?_set_ne (Ne.symm hj)
  have g0 : G1[G.length]? = some (.dic []) := by rw [← hG1]; simp
  have g1 : G1[G.length + 1]? = some (.dic []) := by rw [← hG1]; simp
  have g2 : G1[G.length + 2]? = some (.lst [.obj G.length, .obj (G.length + 1)]) := by rw [← hG1]; simp
  have fresh : ∀ j, G.length ≤ j → j < G.length + 3 → Ap x G1 j := fun j h1 h2 => by rw [← hG1]; exact ap_new hm h1 (by simp; omega)
  refine ⟨_, p, ⟨?_, by rw [k _ (Ne.symm d1)]; exact h'.tr, h.tl, fun i v l h1 h2 => (h'.its i v l h1 h2).stay fun o ho => k o fun z => (h.ao o (by rw [← ho]; exact List.mem_of_getElem? h1)).2 (by rw [z]; simp [Wx.own]), by rw [k (G.length + 2) (by omega)]; exact g2, ⟨by rw [k _ (by omega)]; exact g0, by rw [k _ (by omega)]; exact g1, trivial⟩, ?_, fun j hj => ?_, fun o ho => ?_⟩, ⟨rfl, fun j h1 h2 => ?_, by rw [List.length_set, l1]; omega, fun j hj => ?_⟩⟩
  · rw [List.getElem?_set_self (by omega)]
  · show (y.D :: y.TR :: (G.length + 2) :: [G.length, G.length + 1]).Nodup
    simp only [List.nodup_cons, List.mem_cons, not_or, List.not_mem_nil, not_false_eq_true, and_true, List.nodup_nil]
    omega
  · have hj : j ∈ y.D :: y.TR :: (G.length + 2) :: [G.length, G.length + 1] := hj
    simp only [List.mem_cons, List.not_mem_nil, or_false] at hj
    rcases hj with z | z | z | z | z
    · rw [z]; exact (h'.ap _ (by simp [Wx.own])).set
    · rw [z]; exact (h'.ap _ (by simp [Wx.own])).set
    · rw [z]; exact (fresh _ (by omega) (by omega)).set
    · rw [z]; exact (fresh _ (by omega) (by omega)).set
    · rw [z]; exact (fresh _ (by omega) (by omega)).set
  · obtain ⟨a1, a2⟩ := h.ao o ho
    obtain ⟨b1, _⟩ := h'.ao o ho
    refine ⟨b1.set, fun z => ?_⟩
    have lo := a1.lt
    have z : o ∈ y.D :: y.TR :: (G.length + 2) :: [G.length, G.length + 1] := z
    simp only [List.mem_cons, List.not_mem_nil, or_false] at z
    rcases z with z | z | z | z | z
    · exact a2 (by rw [z]; simp [Wx.own])
    · exact a2 (by rw [z]; simp [Wx.own])
    · omega
    · omega
    · omega
  · rw [k j fun z => h2 (by rw [z]; simp [Wx.own]), ← hG1, List.getElem?_append_left h1]
  · have hj : j ∈ y.D :: y.TR :: (G.length + 2) :: [G.length, G.length + 1] := hj
    simp only [List.mem_cons, List.not_mem_nil, or_false] at hj
    rcases hj with z | z | z | z | z
    · exact .inl (by rw [z]; simp [Wx.own])
    · exact .inl (by rw [z]; simp [Wx.own])
    · exact .inr (by omega)
    · exact .inr (by omega)
    · exact .inr (by omega)
theorem s_lcut (hm : MemAt x m G) (h : W2 x y mm.trails mm.notes cnt G) (wf : mm.Wf) (hn : nnN mm.notes) (ht : mm.t = 2) (hcl : mm.cells = 13) : ∃ y' G', m__law_cut [.obj y.D, .fro (ch.map .int)] G = .ok .non G' ∧ W2 x y' (mm.cut ch).trails (mm.cut ch).notes cnt G' ∧ Fw y G y' G' := by
  obtain ⟨p2, y1, G1, lo, hm1, w1, f1⟩ := lcut_loop (m := m) (ch := ch) (List.range' 3 10) y mm G none hm h wf hn (fun c hc => by
    have := List.mem_range'.mp hc
    omega)
  have eL : (List.range' 3 10).foldl (Me.cutStep ch 3) mm = mm.cutL ch := by
    unfold Me.cutL
    rw [ht, hcl]
  rw [eL] at w1
  have hlen : (mm.cutL ch).trails.length = 13 := by
    have key : ∀ (cs : List Nat) (m : Me), (cs.foldl (Me.cutStep ch (1 + mm.t)) m).trails.length = m.trails.length := by
      intro cs
      induction cs with
      | nil => intro m; rfl
      | cons c cs ih =>
        intro m
        rw [List.foldl_cons, ih]
        unfold Me.cutStep
        show (List.set _ _ _).length = _
        rw [List.length_set]
        cases ch[c - (1 + mm.t)]? with
        | none => rfl
        | some s => show (m.trails.set _ _).length = _; rw [List.length_set]
    unfold Me.cutL
    rw [key, wf.len, hcl]
  obtain ⟨y2, G2, q2, w2, f2, _, _⟩ := w1.new (c := 0) (l := [.int 0]) hm1 (by omega)
  have hm2 := f2.mem hm1 w1
  obtain ⟨y3, G3, q3, w3, f3, _, _⟩ := w2.new (c := 1) (l := [.non]) hm2 (by simp; omega)
  have hm3 := f3.mem hm2 w2
  obtain ⟨y4, G4, q4, w4, f4, _, _⟩ := w3.new (c := 2) (l := [.non]) hm3 (by simp; omega)
  have hm4 := f4.mem hm3 w3
  obtain ⟨G5, q5, w5, f5⟩ := w4.notesNew hm4
  have D1 : y1.D = y.D := f1.D
  have D2 : y2.D = y.D := f2.D.trans D1
  have D3 : y3.D = y.D := f3.D.trans D2
  have D4 : y4.D = y.D := f4.D.trans D3
  refine ⟨_, G5, ?_, ?_, (((f1.trans f2).trans f3).trans f4).trans f5⟩
  · have r1 := (w1.app (J := [Ob.lst [.int 0]])).f15
    have r2 := (w2.app (J := [Ob.lst [.non]])).f15
    have r3 := (w3.app (J := [Ob.lst [.non]])).f15
    rw [D1] at r1
    rw [D2] at r2
    rw [D3] at r3
    rw [D4] at q5
    have q2' : putA (.obj y1.TR) (.int 0) (.obj G1.length) (G1 ++ [.lst [.int 0]]) = some G2 := q2
    have q3' : putA (.obj y2.TR) (.int 1) (.obj G2.length) (G2 ++ [.lst [.non]]) = some G3 := q3
    have q4' : putA (.obj y3.TR) (.int 2) (.obj G3.length) (G3 ++ [.lst [.non]]) = some G4 := q4
    have rg : rng2 [.int 3, .int 13] = some ((List.range' 3 10).map fun (k : Nat) => Val.int (k : Int)) := rng2_nat (a := 3) (b := 13) (by omega) (by omega)
    unfold m__law_cut b__law_cut
    rw [run_eq (by rfl)]
    generalize (List.range' 3 10).map (fun (k : Nat) => Val.int (k : Int)) = rl at lo rg
    simp [rg, lo, r1, q2', r2, q3', r3, q4', q5]
  · have et : (mm.cut ch).trails = (((mm.cutL ch).trails.set 0 [.int 0]).set 1 [.non]).set 2 [.non] := by
      have e1 : (mm.cutL ch).t = 2 := by rw [cutL_same.1, ht]
      show ((mm.cutL ch).cutP).trails.set 0 [.int 0] = _
      unfold Me.cutP
      rw [e1]
      show ((((mm.cutL ch).trails.set 0 [.non]).set 1 [.non]).set 2 [.non]).set 0 [.int 0] = _
      rw [List.set_comm _ _ (show (2 : Nat) ≠ 0 by decide), List.set_comm _ _ (show (1 : Nat) ≠ 0 by decide), List.set_set]
    have en : (mm.cut ch).notes = [[], []] := by
      show List.replicate ((mm.cutL ch).cutP).t [] = _
      rw [cutP_same.1, cutL_same.1, ht]
      rfl
    rw [et, en]
    exact w5
end
noncomputable def tw0 : SM := (sSet 2 (eLst true (aCons (eTup (aCons (eC (.int 0)) (aCons (eTup (aCons (eC (.str 6)) (aCons (eC (.int 0)) aNil))) aNil))) (aCons (eTup (aCons (eC (.int 1)) (aCons (eTup (aCons (eC (.str 6)) (aCons (eC (.int 2)) aNil))) aNil))) (aCons (eTup (aCons (eC (.int 2)) (aCons (eTup (aCons (eC (.str 2)) (aCons (eC (.int 5)) aNil))) aNil))) (aCons (eTup (aCons (eNeg (eC (.int 1))) (aCons (eTup (aCons (eC (.str 7)) aNil)) aNil))) (aCons (eTup (aCons (eC (.int 0)) (aCons (eTup (aCons (eC (.str 2)) (aCons (eC (.int 13)) aNil))) aNil))) (aCons (eTup (aCons (eC (.int 0)) (aCons (eTup (aCons (eC (.str 7)) (aCons (eC (.int 1)) aNil))) aNil))) aNil))))))))
noncomputable def tw1 : SM := (sSet 2 (eOp (fAdd true) (eVar 2) (eLst true (aCons (eTup (aCons (eC (.int 0)) (aCons (eTup (aCons (eC (.str 14)) (aCons (eC (.int 1)) aNil))) aNil))) (aCons (eTup (aCons (eC (.int 0)) (aCons (eTup (aCons (eC (.str 3)) (aCons (eC (.int 5)) aNil))) aNil))) (aCons (eTup (aCons (eC (.int 0)) (aCons (eTup (aCons (eC (.str 4)) (aCons (eNeg (eC (.int 1))) (aCons (eC (.int 0)) (aCons (eC (.int 0)) aNil))))) aNil))) (aCons (eTup (aCons (eC (.int 0)) (aCons (eTup aNil) aNil))) (aCons (eTup (aCons (eC (.int 0)) (aCons (eTup (aCons (eC (.str 6)) (aCons (eC (.int 13)) aNil))) aNil))) aNil))))))))
noncomputable def tw2 : SM := (sIf (eTest (eOp fEqA (eOp fMod (eVar 1) (eC (.int 4))) (eC (.int 0)))) (sRet (eCallF m__law_do [] (aCons (eVar 0) (aCons (eC (.str 11)) (aCons (eOp fIx (eLst true (aCons (eC (.int 0)) (aCons (eC (.int 2)) (aCons (eC (.int 13)) (aCons (eNeg (eC (.int 1))) aNil))))) (eOp fMod (eOp fDiv (eVar 1) (eC (.int 4))) (eC (.int 4)))) (aCons (eC (.int 1)) aNil)))))) sPass)
noncomputable def tw3 : SM := (sIf (eTest (eOp fEqA (eOp fMod (eVar 1) (eC (.int 4))) (eC (.int 1)))) (sRet (eCallF m__law_do [] (aCons (eVar 0) (aCons (eC (.str 11)) (aCons (eC (.int 5)) (aCons (eOp fIx (eLst true (aCons (eNeg (eC (.int 1))) (aCons (eC .non) (aCons (eC (.bl true)) aNil)))) (eOp fMod (eOp fDiv (eVar 1) (eC (.int 4))) (eC (.int 3)))) aNil)))))) sPass)
noncomputable def tw4 : SM := (sIf (eTest (eOp fEqA (eOp fMod (eVar 1) (eC (.int 4))) (eC (.int 2)))) (sRet (eCallF m__law_do [] (aCons (eVar 0) (aCons (eC (.str 13)) (aCons (eOp fIx (eLst true (aCons (eLst true (aCons (eC (.int 0)) (aCons (eNeg (eC (.int 1))) aNil))) (aCons (eTup (aCons (eC (.int 0)) (aCons (eC (.int 1)) aNil))) (aCons (eC .non) (aCons (eLst true (aCons (eC (.bl true)) aNil)) aNil))))) (eOp fMod (eOp fDiv (eVar 1) (eC (.int 4))) (eC (.int 4)))) (aCons (eC .non) aNil)))))) sPass)
noncomputable def tw5 : SM := (sRet (eCallF m__law_do [] (aCons (eVar 0) (aCons (eC (.str 10)) (aCons (eOp fIx (eOp fIx (eVar 2) (eOp fMod (eOp fDiv (eVar 1) (eC (.int 4))) (eC (.int 11)))) (eC (.int 0))) (aCons (eOp fIx (eOp fIx (eVar 2) (eOp fMod (eOp fDiv (eVar 1) (eC (.int 4))) (eC (.int 11)))) (eC (.int 1))) aNil))))))
theorem tw_eq : b__law_wrong = sSeq tw0 (sSeq tw1 (sSeq tw2 (sSeq tw3 (sSeq tw4 tw5)))) := rfl
/-! ### law k02: what is not valid -/
theorem seq_next {a b : SM} {ρ ρ1 : Env1} {G G1 : Store} (h : a ρ G = .next ρ1 G1) : sSeq a b ρ G = b ρ1 G1 := by
  rw [v_seq, h]
  rfl
theorem seq_ret {a b : SM} {ρ : Env1} {G G1 : Store} {v : Val} (h : a ρ G = .ret v G1) : sSeq a b ρ G = .ret v G1 := by
  rw [v_seq, h]
  rfl
section
variable {x : Mx} {m : Me} {G G1 : Store} {u v a b : Val}
abbrev refV : Val := .fro [.str 12, .bl true]
theorem do_acc (e : m_Memory_access_R [.obj x.M, a, b] G = .ok u G1) (hm : G[x.M]? = some (.ins 1 vs)) : m__law_do [.obj x.M, .str 10, a, b] G = .ok u G1 := by
  unfold m__law_do b__law_do
  rw [run_eq (by rfl)]
  simp [v_try, methV_1 hm, e]
theorem do_dri (e : m_Memory_drift_R [.obj x.M, a, b] G = .ok u G1) (hm : G[x.M]? = some (.ins 1 vs)) : m__law_do [.obj x.M, .str 11, a, b] G = .ok u G1 := by
  unfold m__law_do b__law_do
  rw [run_eq (by rfl)]
  simp [v_try, methV_1 hm, e]
theorem do_cut (e : m_Memory_cut_R [.obj x.M, a] G = .ok u G1) (hm : G[x.M]? = some (.ins 1 vs)) : m__law_do [.obj x.M, .str 13, a, b] G = .ok u G1 := by
  unfold m__law_do b__law_do
  rw [run_eq (by rfl)]
  simp [v_try, methV_1 hm, e]
theorem do_accX (e : m_Memory_access_R [.obj x.M, a, b] G = .exc ("NotValid" : Str) G) (hm : G[x.M]? = some (.ins 1 vs)) : m__law_do [.obj x.M, .str 10, a, b] G = .ok refV G := by
  unfold m__law_do b__law_do
  rw [run_eq (by rfl)]
  simp [v_try, methV_1 hm, e]
theorem do_driX (e : m_Memory_drift_R [.obj x.M, a, b] G = .exc ("NotValid" : Str) G) (hm : G[x.M]? = some (.ins 1 vs)) : m__law_do [.obj x.M, .str 11, a, b] G = .ok refV G := by
  unfold m__law_do b__law_do
  rw [run_eq (by rfl)]
  simp [v_try, methV_1 hm, e]
theorem do_cutX (e : m_Memory_cut_R [.obj x.M, a] G = .exc ("NotValid" : Str) G) (hm : G[x.M]? = some (.ins 1 vs)) : m__law_do [.obj x.M, .str 13, a, b] G = .ok refV G := by
  unfold m__law_do b__law_do
  rw [run_eq (by rfl)]
  simp [v_try, methV_1 hm, e]
theorem acc_x (hm : G[x.M]? = some (.ins 1 vs)) (e : m_Memory_check_request_R [.obj x.M, a, b] G = .exc ("NotValid" : Str) G) : m_Memory_access_R [.obj x.M, a, b] G = .exc ("NotValid" : Str) G := by
  unfold m_Memory_access_R b_Memory_access_R
  rw [run_eq (by rfl)]
  simp [methV_1 hm, e]
def wMenu : List Val := [.tup [.int 0, .tup [.str 6, .int 0]], .tup [.int 1, .tup [.str 6, .int 2]], .tup [.int 2, .tup [.str 2, .int 5]], .tup [.int (-1), .tup [.str 7]], .tup [.int 0, .tup [.str 2, .int 13]], .tup [.int 0, .tup [.str 7, .int 1]], .tup [.int 0, .tup [.str 14, .int 1]], .tup [.int 0, .tup [.str 3, .int 5]], .tup [.int 0, .tup [.str 4, .int (-1), .int 0, .int 0]], .tup [.int 0, .tup []], .tup [.int 0, .tup [.str 6, .int 13]]]
theorem x_thread (h : MemAt x m G) (ht : m.t = 2) {i : Int} (hi : i < 0 ∨ 1 < i) : m_Memory_check_request_R [.obj x.M, .int i, b] G = .exc ("NotValid" : Str) G := by
  unfold m_Memory_check_request_R b_Memory_check_request_R
  rw [run_eq (by rfl)]
  have f1 := lay_t h.lay
  rw [ht] at f1
  have h2 : ¬ (0 ≤ i ∧ i ≤ 1) := by omega
  have f1' : fldV [(0, 0)] (.obj x.L) G = .ok (.int 2) G := f1
  have h3 : i < 0 ∨ 1 < i := hi
  simp [mf_lay h, f1', s_is_within, if_pos h3]
theorem x_menu (h : MemAt x m G) (wf : m.Wf) (ht : m.t = 2) (hc : m.cells = 13) : ∀ j, j < 11 → ∃ th rq, wMenu[j]? = some (.tup [.int th, rq]) ∧ m_Memory_check_request_R [.obj x.M, .int th, rq] G = .exc ("NotValid" : Str) G := by
  have f1 := lay_t h.lay
  rw [ht] at f1
  have f1' : fldV [(0, 0)] (.obj x.L) G = .ok (.int 2) G := f1
  have xl : ∀ i : Int, i < 3 ∨ 13 ≤ i → m_Memory_check_lasting_R [.obj x.M, .int i] G = .exc ("NotValid" : Str) G := fun i hi => x_check_lasting h wf (by rw [ht, hc]; omega)
  have xc : ∀ i : Int, i < 0 ∨ 13 ≤ i → m_Memory_check_cell_R [.obj x.M, .int i] G = .exc ("NotValid" : Str) G := fun i hi => x_check_cell h wf (by rw [hc]; omega)
  have ni : ∀ (a b : Int) (J : Store), fNeA (.int a) (.int b) J = .ok (.bl (!decide (a = b))) J := fun a b J => by
    rw [fNeA_pln rfl rfl]
    simp
  have nn : ∀ (b : Int) (J : Store), fNeA .non (.int b) J = .ok (.bl true) J := fun b J => by
    rw [fNeA_pln rfl rfl]
    simp
  have ns : ∀ (a b : Nat) (J : Store), fNeA (.str a) (.str b) J = .ok (.bl (!decide (a = b))) J := fun a b J => by
    rw [fNeA_pln rfl rfl]
    simp
  intro j hj
  match j, hj with
  | 0, _ =>
    refine ⟨_, _, rfl, ?_⟩
    unfold m_Memory_check_request_R b_Memory_check_request_R
    rw [run_eq (by rfl)]
    simp [mf_lay h, f1', s_is_within, isTy, List.lookup, methV_1 h.mem, xl, ni]
  | 1, _ =>
    refine ⟨_, _, rfl, ?_⟩
    unfold m_Memory_check_request_R b_Memory_check_request_R
    rw [run_eq (by rfl)]
    simp [mf_lay h, f1', s_is_within, isTy, List.lookup, methV_1 h.mem, xl, ni]
  | 2, _ => exact ⟨_, _, rfl, x_thread h ht (by omega)⟩
  | 3, _ => exact ⟨_, _, rfl, x_thread h ht (by omega)⟩
  | 4, _ =>
    refine ⟨_, _, rfl, ?_⟩
    unfold m_Memory_check_request_R b_Memory_check_request_R
    rw [run_eq (by rfl)]
    simp [mf_lay h, f1', s_is_within, isTy, List.lookup, methV_1 h.mem, xc, ni, ns]
  | 5, _ =>
    refine ⟨_, _, rfl, ?_⟩
    unfold m_Memory_check_request_R b_Memory_check_request_R
    rw [run_eq (by rfl)]
    simp [mf_lay h, f1', s_is_within, isTy, List.lookup, methV_1 h.mem, xc, ni, ns]
  | 6, _ =>
    refine ⟨_, _, rfl, ?_⟩
    unfold m_Memory_check_request_R b_Memory_check_request_R
    rw [run_eq (by rfl)]
    simp [mf_lay h, f1', s_is_within, isTy, List.lookup, methV_1 h.mem, xc, ni, ns, nn]
  | 7, _ =>
    refine ⟨_, _, rfl, ?_⟩
    unfold m_Memory_check_request_R b_Memory_check_request_R
    rw [run_eq (by rfl)]
    simp [mf_lay h, f1', s_is_within, isTy, List.lookup, methV_1 h.mem, xc, ni, ns]
  | 8, _ =>
    refine ⟨_, _, rfl, ?_⟩
    unfold m_Memory_check_request_R b_Memory_check_request_R
    rw [run_eq (by rfl)]
    simp [mf_lay h, f1', s_is_within, isTy, List.lookup, methV_1 h.mem, xc, ni, ns]
  | 9, _ =>
    refine ⟨_, _, rfl, ?_⟩
    unfold m_Memory_check_request_R b_Memory_check_request_R
    rw [run_eq (by rfl)]
    simp [mf_lay h, f1', s_is_within, isTy]
  | 10, _ =>
    refine ⟨_, _, rfl, ?_⟩
    unfold m_Memory_check_request_R b_Memory_check_request_R
    rw [run_eq (by rfl)]
    simp [mf_lay h, f1', s_is_within, isTy, List.lookup, methV_1 h.mem, xl, ni]
theorem x_drift1 (h : MemAt x m G) (wf : m.Wf) (ht : m.t = 2) (hc : m.cells = 13) {i : Int} (hi : i < 3 ∨ 13 ≤ i) : m_Memory_drift_R [.obj x.M, .int i, b] G = .exc ("NotValid" : Str) G := by
  have xl : m_Memory_check_lasting_R [.obj x.M, .int i] G = .exc ("NotValid" : Str) G := x_check_lasting h wf (by rw [ht, hc]; omega)
  unfold m_Memory_drift_R b_Memory_drift_R
  rw [run_eq (by rfl)]
  simp [methV_1 h.mem, xl]
theorem x_drift2 (h : MemAt x m G) (wf : m.Wf) (ht : m.t = 2) (hc : m.cells = 13) (hb : b = .int (-1) ∨ b = .non ∨ b = .bl true) : m_Memory_drift_R [.obj x.M, .int 5, b] G = .exc ("NotValid" : Str) G := by
  have xl : m_Memory_check_lasting_R [.obj x.M, .int 5] G = .ok .non G := s_check_lastingR (c := 5) h wf (by omega) (by unfold Me.last; rw [ht, hc]; rfl)
  unfold m_Memory_drift_R b_Memory_drift_R
  rw [run_eq (by rfl)]
  rcases hb with rfl | rfl | rfl <;> simp [methV_1 h.mem, xl, isTy]
theorem x_cut (ha : a = .fro [.int 0, .int (-1)] ∨ a = .tup [.int 0, .int 1] ∨ a = .non ∨ a = .fro [.bl true]) : m_Memory_cut_R [.obj x.M, a] G = .exc ("NotValid" : Str) G := by
  unfold m_Memory_cut_R b_Memory_cut_R
  rw [run_eq (by rfl)]
  have l3 : ∀ (v : Val) (r0 r1 r3 r4 : Option Val), b_Memory_cut_R_l3 [r0, r1, some v, r3, r4] G = if v = .int 0 then .next [r0, r1, some v, r3, r4] G else b_Memory_cut_R_l3 [r0, r1, some v, r3, r4] G := fun v r0 r1 r3 r4 => by
    by_cases hv : v = .int 0
    · rw [if_pos hv, hv]
      unfold b_Memory_cut_R_l3
      simp [isTy]
    · rw [if_neg hv]
  have q0 : ∀ (r0 r1 r3 r4 : Option Val), b_Memory_cut_R_l3 [r0, r1, some (.int 0), r3, r4] G = .next [r0, r1, some (.int 0), r3, r4] G := fun r0 r1 r3 r4 => by
    unfold b_Memory_cut_R_l3
    simp [isTy]
  have q1 : ∀ (r0 r1 r3 r4 : Option Val), b_Memory_cut_R_l3 [r0, r1, some (.int (-1)), r3, r4] G = .exc ("NotValid" : Str) G := fun r0 r1 r3 r4 => by
    unfold b_Memory_cut_R_l3
    simp [isTy]
  have q2 : ∀ (r0 r1 r3 r4 : Option Val), b_Memory_cut_R_l3 [r0, r1, some (.bl true), r3, r4] G = .exc ("NotValid" : Str) G := fun r0 r1 r3 r4 => by
    unfold b_Memory_cut_R_l3
    simp [isTy]
  rcases ha with rfl | rfl | rfl | rfl
  · simp [isTy, v_forCons, q0, q1]
  · simp [isTy]
  · simp [isTy]
  · simp [isTy, v_forCons, q2]
/-- every wrong one is refused -/
theorem s_wrong (h : MemAt x m G) (wf : m.Wf) (ht : m.t = 2) (hc : m.cells = 13) {n : Int} : m__law_wrong [.obj x.M, .int n] G = .ok refV G := by
  have m4 : ∀ (a : Int) (J : Store), fMod (.int a) (.int 4) J = .ok (.int (a % 4)) J := fun a J => fMod_ii (by decide)
  have m3 : ∀ (a : Int) (J : Store), fMod (.int a) (.int 3) J = .ok (.int (a % 3)) J := fun a J => fMod_ii (by decide)
  have m11 : ∀ (a : Int) (J : Store), fMod (.int a) (.int 11) J = .ok (.int (a % 11)) J := fun a J => fMod_ii (by decide)
  have d4 : ∀ (a : Int) (J : Store), fDiv (.int a) (.int 4) J = .ok (.int (a / 4)) J := fun a J => fDiv_ii (by decide) (by decide)
  have w0 : tw0 [some (.obj x.M), some (.int n), none] G = .next [some (.obj x.M), some (.int n), some (.fro (wMenu.take 6))] G := by
    unfold tw0
    simp [wMenu]
  have w1 : tw1 [some (.obj x.M), some (.int n), some (.fro (wMenu.take 6))] G = .next [some (.obj x.M), some (.int n), some (.fro wMenu)] G := by
    unfold tw1
    have ad : fAdd true (.fro (wMenu.take 6)) (.fro [.tup [.int 0, .tup [.str 14, .int 1]], .tup [.int 0, .tup [.str 3, .int 5]], .tup [.int 0, .tup [.str 4, .int (-1), .int 0, .int 0]], .tup [.int 0, .tup []], .tup [.int 0, .tup [.str 6, .int 13]]]) G = .ok (.fro wMenu) G := by
      rw [fAdd_ff (by simp [wMenu])]
      rfl
    simp [ad]
  unfold m__law_wrong
  rw [run_eq (by rfl), tw_eq]
  show fin (sSeq tw0 _ [some (.obj x.M), some (.int n), none] G) = _
  rw [seq_next w0, seq_next w1]
  have c4 := Int.emod_nonneg n (show (4 : Int) ≠ 0 by decide)
  have c4' := Int.emod_lt_of_pos n (show (0 : Int) < 4 by decide)
  have hq := h.mem
  by_cases h0 : n % 4 = 0
  · obtain ⟨j, hj, ej⟩ : ∃ j : Nat, j < 4 ∧ n / 4 % 4 = (j : Int) := ⟨(n / 4 % 4).toNat, by omega, by omega⟩
    have w2 : tw2 [some (.obj x.M), some (.int n), some (.fro wMenu)] G = .ret refV G := by
      unfold tw2
      match j, hj with
      | 0, _ => simp [m4, h0, d4, ej, do_driX (x_drift1 h wf ht hc (i := 0) (b := .int 1) (by omega)) hq]
      | 1, _ => simp [m4, h0, d4, ej, do_driX (x_drift1 h wf ht hc (i := 2) (b := .int 1) (by omega)) hq]
      | 2, _ => simp [m4, h0, d4, ej, fIx_fro (k := 2), do_driX (x_drift1 h wf ht hc (i := 13) (b := .int 1) (by omega)) hq]
      | 3, _ => simp [m4, h0, d4, ej, fIx_fro (k := 3), do_driX (x_drift1 h wf ht hc (i := -1) (b := .int 1) (by omega)) hq]
    rw [seq_ret w2]
    rfl
  · have w2 : tw2 [some (.obj x.M), some (.int n), some (.fro wMenu)] G = .next [some (.obj x.M), some (.int n), some (.fro wMenu)] G := by
      unfold tw2
      simp [m4, h0]
    rw [seq_next w2]
    by_cases h1 : n % 4 = 1
    · obtain ⟨j, hj, ej⟩ : ∃ j : Nat, j < 3 ∧ n / 4 % 3 = (j : Int) := ⟨(n / 4 % 3).toNat, by omega, by omega⟩
      have w3 : tw3 [some (.obj x.M), some (.int n), some (.fro wMenu)] G = .ret refV G := by
        unfold tw3
        match j, hj with
        | 0, _ => simp [m4, h1, d4, m3, ej, do_driX (x_drift2 h wf ht hc (b := .int (-1)) (.inl rfl)) hq]
        | 1, _ => simp [m4, h1, d4, m3, ej, do_driX (x_drift2 h wf ht hc (b := .non) (.inr (.inl rfl))) hq]
        | 2, _ => simp [m4, h1, d4, m3, ej, fIx_fro (k := 2), do_driX (x_drift2 h wf ht hc (b := .bl true) (.inr (.inr rfl))) hq]
      rw [seq_ret w3]
      rfl
    · have w3 : tw3 [some (.obj x.M), some (.int n), some (.fro wMenu)] G = .next [some (.obj x.M), some (.int n), some (.fro wMenu)] G := by
        unfold tw3
        simp [m4, h1]
      rw [seq_next w3]
      by_cases h2 : n % 4 = 2
      · obtain ⟨j, hj, ej⟩ : ∃ j : Nat, j < 4 ∧ n / 4 % 4 = (j : Int) := ⟨(n / 4 % 4).toNat, by omega, by omega⟩
        have w4 : tw4 [some (.obj x.M), some (.int n), some (.fro wMenu)] G = .ret refV G := by
          unfold tw4
          match j, hj with
          | 0, _ => simp [m4, h2, d4, ej, do_cutX (x_cut (a := .fro [.int 0, .int (-1)]) (.inl rfl)) hq]
          | 1, _ => simp [m4, h2, d4, ej, do_cutX (x_cut (a := .tup [.int 0, .int 1]) (.inr (.inl rfl))) hq]
          | 2, _ => simp [m4, h2, d4, ej, fIx_fro (k := 2), do_cutX (x_cut (a := .non) (.inr (.inr (.inl rfl)))) hq]
          | 3, _ => simp [m4, h2, d4, ej, fIx_fro (k := 3), do_cutX (x_cut (a := .fro [.bl true]) (.inr (.inr (.inr rfl)))) hq]
        rw [seq_ret w4]
        rfl
      · have w4 : tw4 [some (.obj x.M), some (.int n), some (.fro wMenu)] G = .next [some (.obj x.M), some (.int n), some (.fro wMenu)] G := by
          unfold tw4
          simp [m4, h2]
        rw [seq_next w4]
        obtain ⟨j, hj, ej⟩ : ∃ j : Nat, j < 11 ∧ n / 4 % 11 = (j : Int) := ⟨(n / 4 % 11).toNat, by omega, by omega⟩
        obtain ⟨th, rq, e1, e2⟩ := x_menu h wf ht hc j hj
        have i1 : fIx (.fro wMenu) (.int (j : Int)) G = .ok (.tup [.int th, rq]) G := fIx_at rfl e1
        have w5 := do_accX (acc_x hq e2) hq
        unfold tw5
        generalize wMenu = wm at i1
        simp [d4, m11, ej, i1, w5]
end
/-! ### law k02: values, requests, looks -/
section
variable {x : Mx} {y : Wx} {m : Me} {G G1 : Store} {u v a b : Val} {T : List (List Val)} {N : List Prs} {cnt c : Nat}
def valL (n : Int) : List Val := [.int 0, .int 1, .non, .tup [.int n, .int 2], .str 8, .int n, .int 0, .tup [.str 9, .int 7]]
def valW (n : Int) : Val := (valL n).getD (n % 8).toNat .non
theorem valL_ok {n : Int} : ∀ v ∈ valL n, pln 39 v = true ∧ okV v := by
  intro v hv
  unfold valL at hv
  simp only [List.mem_cons, List.not_mem_nil, or_false] at hv
  rcases hv with rfl | rfl | rfl | rfl | rfl | rfl | rfl | rfl <;> exact ⟨rfl, rfl, _, rfl⟩
theorem valW_get {n : Int} : (valL n)[(n % 8).toNat]? = some (valW n) := by
  have h0 := Int.emod_nonneg n (show (8 : Int) ≠ 0 by decide)
  have h1 := Int.emod_lt_of_pos n (show (0 : Int) < 8 by decide)
  unfold valW
  rw [List.getD_eq_getElem?_getD, List.getElem?_eq_getElem (show (n % 8).toNat < (valL n).length by show _ < 8; omega)]
  rfl
theorem valW_ok {n : Int} : pln 39 (valW n) = true ∧ okV (valW n) := valL_ok _ (List.mem_of_getElem? valW_get)
theorem s_value {n : Int} : m__law_value [.int n] G = .ok (valW n) G := by
  have h0 := Int.emod_nonneg n (show (8 : Int) ≠ 0 by decide)
  have m8 : fMod (.int n) (.int 8) G = .ok (.int (((n % 8).toNat : Nat) : Int)) G := by
    rw [fMod_ii (by decide)]
    congr 2
    omega
  have i1 : fIx (.fro (valL n)) (.int (((n % 8).toNat : Nat) : Int)) G = .ok (valW n) G := fIx_at rfl valW_get
  unfold valL at i1
  unfold m__law_value b__law_value
  rw [runT_eq (by rfl)]
  have dw : dat (valW n) = true := valW_ok.2.1
  generalize (((n % 8).toNat : Nat) : Int) = k at m8 i1
  simp [m8, i1, trunc_d0, dw]
/-- values of the trails -/
def PV (m : Me) : Prop := ∀ l ∈ m.trails, ∀ v ∈ l, pln 39 v = true
theorem pv_tr (h : PV m) : ∀ v ∈ m.tr c, pln 39 v = true := by
  intro v hv
  unfold Me.tr at hv
  cases e : m.trails[c]? with
  | none => rw [e] at hv; cases hv
  | some l =>
    rw [e] at hv
    exact h l (List.mem_of_getElem? e) v hv
theorem pv_set {l : List Val} (h : PV m) (hl : ∀ v ∈ l, pln 39 v = true) : PV { m with trails := m.trails.set c l } := fun k hk => by
  rcases List.mem_or_eq_of_mem_set (show k ∈ m.trails.set c l from hk) with hk | rfl
  · exact h k hk
  · exact hl
theorem pv_give (h : PV m) (hv : pln 39 v = true) : PV (m.give c v) := by
  unfold Me.give
  refine pv_set h fun w hw => ?_
  split at hw
  · rcases List.mem_append.mp hw with hw | hw
    · exact pv_tr h w hw
    · rw [List.mem_singleton.mp hw]; exact hv
  · rw [List.mem_singleton.mp hw]; exact hv
theorem pv_shorten (h : PV m) {s : Int} : PV (m.shorten c s) := fun k hk => by
  rcases List.mem_or_eq_of_mem_set (show k ∈ m.trails.set c ((m.tr c).drop (m.cutN c s)) from hk) with hk | rfl
  · exact h k hk
  · exact fun w hw => pv_tr h w (List.mem_of_mem_drop hw)
theorem pv_fence {th : Nat} (h : PV m) : PV (m.fence th) := by
  have key : ∀ (ks : List Int) (m : Me) (d : Prs), PV m → PV (ks.foldl (Me.fenceS d) m) := by
    intro ks
    induction ks with
    | nil => intro m d h; exact h
    | cons k ks ih => intro m d h; exact ih _ d (pv_shorten h)
  exact key _ _ _ h
theorem pv_cut {ch : List Int} (h : PV m) : PV (m.cut ch) := by
  have k1 : ∀ (cs : List Nat) (m : Me), PV m → PV (cs.foldl (Me.cutStep ch (1 + m.t)) m) := by
    intro cs m
    generalize 1 + m.t = f
    induction cs generalizing m with
    | nil => intro h; exact h
    | cons c cs ih =>
      intro h
      refine ih _ ?_
      unfold Me.cutStep
      have : PV (match ch[c - f]? with | some s => m.shorten c s | none => m) := by
        cases ch[c - f]? with
        | none => exact h
        | some s => exact pv_shorten h
      exact pv_set this fun w hw => pv_tr this w (List.mem_of_mem_take hw)
  have k2 : ∀ (cs : List Nat) (m : Me), PV m → PV (cs.foldl Me.pass1 m) := by
    intro cs
    induction cs with
    | nil => intro m h; exact h
    | cons c cs ih => intro m h; exact ih _ (pv_set h fun w hw => by rw [List.mem_singleton.mp hw]; rfl)
  have h2 : PV (m.cutL ch).cutP := k2 _ _ (k1 _ m h)
  exact pv_set (c := 0) h2 fun w hw => by rw [List.mem_singleton.mp hw]; rfl
def Rq.pl : Rq → Prop
  | .write _ v => pln 39 v = true
  | .swap _ _ b => pln 39 b = true
  | .decide _ v => ∃ s, v = .str s
  | _ => True
theorem pv_accA {th : Nat} {q : Rq} (h : PV m) (hq : q.pl) : PV (m.accA th q).2 := by
  have ht : PV (m.tick th q) := h
  cases q with
  | read c => exact ht
  | write c v => exact pv_give ht hq
  | swap c a b =>
    show PV (if sameV (m.cur c) a = true then (Val.bl true, (m.tick th (.swap c a b)).give c b) else (Val.bl false, m.tick th (.swap c a b))).2
    split
    · exact pv_give ht hq
    · exact ht
  | decide c v =>
    show PV (if sameV (m.cur c) (.int 0) = true then (Val.bl true, (m.tick th (.decide c v)).give c (.tup [v, .int ((m.count + 1 : Nat) : Int)])) else (Val.bl false, m.tick th (.decide c v))).2
    split
    · obtain ⟨s, rfl⟩ := hq
      exact pv_give ht rfl
    · exact ht
  | flush c => exact ht
  | fence => exact pv_fence ht
/-- a request is told -/
theorem s_request (h : W2 x y m.trails m.notes cnt G) (wf : m.Wf) (ht : m.t = 2) (hc : m.cells = 13) (pv : PV m) {i j k : Int} : ∃ q : Rq, q.ok m ∧ q.pl ∧ m__law_request [.obj y.D, .int i, .int j, .int k] G = .ok q.val G := by
  have md : ∀ (a b : Int) (J : Store), 0 < b → fMod (.int a) (.int b) J = .ok (.int (a % b)) J := fun a b J hb => fMod_ii hb
  have m5 : ∀ (a : Int) (J : Store), fMod (.int a) (.int 5) J = .ok (.int (a % 5)) J := fun a J => fMod_ii (by decide)
  have m9 : ∀ (a : Int) (J : Store), fMod (.int a) (.int 9) J = .ok (.int (a % 9)) J := fun a J => fMod_ii (by decide)
  have m10 : ∀ (a : Int) (J : Store), fMod (.int a) (.int 10) J = .ok (.int (a % 10)) J := fun a J => fMod_ii (by decide)
  have m3 : ∀ (a : Int) (J : Store), fMod (.int a) (.int 3) J = .ok (.int (a % 3)) J := fun a J => fMod_ii (by decide)
  have m2 : ∀ (a : Int) (J : Store), fMod (.int a) (.int 2) J = .ok (.int (a % 2)) J := fun a J => fMod_ii (by decide)
  have d2 : ∀ (a : Int) (J : Store), fDiv (.int a) (.int 2) J = .ok (.int (a / 2)) J := fun a J => fDiv_ii (by decide) (by decide)
  have d3 : ∀ (a : Int) (J : Store), fDiv (.int a) (.int 3) J = .ok (.int (a / 3)) J := fun a J => fDiv_ii (by decide) (by decide)
  -- the cell
  obtain ⟨c, hc13, ec⟩ : ∃ c : Nat, c < 13 ∧ fIx (.fro [.int 5, .int 6, .int 7, .int 3, .int 5, .int 6, .int 0, .int 1, .int (8 + j % 5)]) (.int (j % 9)) G = .ok (.int (c : Int)) G := by
    have j0 := Int.emod_nonneg j (show (5 : Int) ≠ 0 by decide)
    have j1 := Int.emod_lt_of_pos j (show (0 : Int) < 5 by decide)
    obtain ⟨n, hn, en⟩ : ∃ n : Nat, n < 9 ∧ j % 9 = (n : Int) := ⟨(j % 9).toNat, by omega, by omega⟩
    rw [en]
    have cj : 8 + j % 5 = ((8 + (j % 5).toNat : Nat) : Int) := by omega
    match n, hn with
    | 0, _ => exact ⟨5, by omega, fIx_fro (k := 0) rfl⟩
    | 1, _ => exact ⟨6, by omega, fIx_fro (k := 1) rfl⟩
    | 2, _ => exact ⟨7, by omega, fIx_fro (k := 2) rfl⟩
    | 3, _ => exact ⟨3, by omega, fIx_fro (k := 3) rfl⟩
    | 4, _ => exact ⟨5, by omega, fIx_fro (k := 4) rfl⟩
    | 5, _ => exact ⟨6, by omega, fIx_fro (k := 5) rfl⟩
    | 6, _ => exact ⟨0, by omega, fIx_fro (k := 6) rfl⟩
    | 7, _ => exact ⟨1, by omega, fIx_fro (k := 7) rfl⟩
    | 8, _ => exact ⟨8 + (j % 5).toNat, by omega, by rw [cj]; exact fIx_fro (k := 8) rfl⟩
  have hcc : c < m.cells := by omega
  obtain ⟨e1, e2⟩ := tr_get wf hcc
  obtain ⟨e6, e7⟩ := cur_at wf hcc e1
  obtain ⟨w, a1, a2, _⟩ := h.at_ e1
  have a3 := fIx_lastI a2.items.1 e6
  have f15 := h.f15
  have k0 := Int.emod_nonneg i (show (10 : Int) ≠ 0 by decide)
  unfold m__law_request b__law_request
  rw [runT_eq (by rfl)]
  by_cases h1 : i % 10 < 3
  · have dw : dat (valW k) = true := valW_ok.2.1
    refine ⟨.write c (valW k), ⟨hcc, valW_ok.2⟩, valW_ok.1, ?_⟩
    simp [m5, m9, ec, m10, h1, s_value, trunc_d0, dw, Rq.val]
  · by_cases h2 : i % 10 = 3
    · have dw : dat (valW (k / 2)) = true := valW_ok.2.1
      by_cases h3 : k % 3 = 0
      · have dw3 : dat (valW (k / 3)) = true := valW_ok.2.1
        refine ⟨.swap c (valW (k / 3)) (valW (k / 2)), ⟨hcc, valW_ok.2, valW_ok.2⟩, valW_ok.1, ?_⟩
        simp [m5, m9, ec, m10, h2, f15, a1, a3, m3, h3, d3, d2, s_value, trunc_d0, dw, dw3, Rq.val]
      · have dw3 : dat (m.cur c) = true := e7.1
        refine ⟨.swap c (m.cur c) (valW (k / 2)), ⟨hcc, e7, valW_ok.2⟩, valW_ok.1, ?_⟩
        simp [m5, m9, ec, m10, h2, f15, a1, a3, m3, h3, d2, s_value, trunc_d0, dw, dw3, Rq.val]
    · by_cases h4 : i % 10 = 4
      · have k2 : k % 2 = 0 ∨ k % 2 = 1 := by omega
        rcases k2 with k2 | k2
        · refine ⟨.decide c (.str 9), ⟨hcc, ⟨rfl, _, rfl⟩, _, rfl⟩, ⟨9, rfl⟩, ?_⟩
          simp [m5, m9, ec, m10, h4, m2, k2, trunc_d0, Rq.val]
        · refine ⟨.decide c (.str 18), ⟨hcc, ⟨rfl, _, rfl⟩, _, rfl⟩, ⟨18, rfl⟩, ?_⟩
          simp [m5, m9, ec, m10, h4, m2, k2, trunc_d0, Rq.val]
      · by_cases h5 : i % 10 = 5
        · refine ⟨.read c, hcc, trivial, ?_⟩
          simp [m5, m9, ec, m10, h5, trunc_d0, Rq.val]
        · by_cases h6 : i % 10 < 8
          · have cm : (if (c : Int) > 3 then (c : Int) else 3) = ((max 3 c : Nat) : Int) := by split <;> omega
            refine ⟨.flush (max 3 c), ⟨by omega, by unfold Me.last; rw [ht, hc]; simp; omega⟩, trivial, ?_⟩
            have mx : bMax [.int 3, .int (c : Int)] G = .ok (.int ((max 3 c : Nat) : Int)) G := by rw [bMax_ii, cm]
            simp only [Rq.val]
            generalize ((max 3 c : Nat) : Int) = mc at mx ⊢
            simp [m5, m9, ec, m10, h1, h2, h4, h5, h6, mx, trunc_d0, -bMax_ii]
          · refine ⟨.fence, trivial, trivial, ?_⟩
            simp [m5, m9, ec, m10, h1, h2, h4, h5, h6, trunc_d0, Rq.val]
/-- the same -/
theorem s_same (hv : okV v ∨ ∃ b, v = .bl b) : m__law_same [v, v] G = .ok (.bl true) G := by
  have e : ∃ d, toD G dEq v = some d ∧ ∃ n, tyN G v = some n := by
    rcases hv with ⟨h1, d, h2⟩ | ⟨b, rfl⟩
    · refine ⟨d, by rw [toD_dat dEq h1 (G' := [])]; exact h2, ?_⟩
      cases v with
      | scr l => cases h2
      | frd l => cases h2
      | obj i => simp [dat, clo] at h1
      | _ => exact ⟨_, rfl⟩
    · exact ⟨_, rfl, _, rfl⟩
  obtain ⟨d, h1, n, h2⟩ := e
  have q1 := fEqA_self h1
  have q2 : ∀ b : Bool, fEqA (.bl b) (.bl b) G = .ok (.bl true) G := fun b => fEqA_self (d := .bool b) rfl
  unfold m__law_same b__law_same
  rw [runT_eq (by rfl)]
  simp [h2, q1, q2, trunc_d0]
theorem toD_list {l : List Val} (h : ∀ v ∈ l, pln 39 v = true) : ∃ ds, optAll (toD G 39) l = some ds := optAll_of fun v hv => pln_toD 39 (h v hv)
theorem fNe_it {l : List Val} (hl : ∀ v ∈ l, pln 39 v = true) (h : itE G u l) : fNeA (.fro l) u G = .ok (.bl false) G := by
  obtain ⟨ds, e⟩ := toD_list (G := G) hl
  have e1 : toD G dEq (.fro l) = some (.list ds) := by
    show (optAll (toD G 39) l).map PyData.list = _
    rw [e]
    rfl
  have e2 : toD G dEq u = some (.list ds) := by
    rcases h with rfl | ⟨o, rfl, ho⟩
    · exact e1
    · show (match G[o]? with
        | some (.lst l) => (optAll (toD G 39) l).map PyData.list
        | _ => none) = _
      rw [ho]
      simp only [e]
      rfl
  unfold fNeA orF fNe
  simp only [e1, e2, toD_self dEq e1]
  rfl
theorem fNe_p {v : Val} (h : pln 39 v = true) : fNeA v v G = .ok (.bl false) G := by
  have : ∀ (k : Nat) (v : Val), pln k v = true → pln (k + 1) v = true := by
    intro k
    induction k with
    | zero =>
      intro v hv
      cases v with
      | tup l => cases hv
      | fro l => cases hv
      | non => rfl
      | int i => rfl
      | str i => rfl
      | _ => cases hv
    | succ k ih =>
      intro v hv
      have L : ∀ l : List Val, plnL k l = true → plnL (k + 1) l = true := by
        intro l
        induction l with
        | nil => intro _; rfl
        | cons a l ihl =>
          intro hl
          obtain ⟨h1, h2⟩ := Bool.and_eq_true_iff.mp (show (pln k a && plnL k l) = true from hl)
          exact Bool.and_eq_true_iff.mpr ⟨ih a h1, ihl h2⟩
      cases v with
      | tup l => exact L l hv
      | fro l => exact L l hv
      | non => rfl
      | int i => rfl
      | str i => rfl
      | _ => cases hv
  obtain ⟨d, hd⟩ := pln_toD (G := G) 40 (this 39 v h)
  exact fNeA_self hd
theorem s_looks (hm : MemAt x m G) (h : W2 x y m.trails m.notes m.count G) (wf : m.Wf) (ht : m.t = 2) (hc : m.cells = 13) (pv : PV m) : m__law_looks [.obj x.M, .obj y.D] G = .ok (.bl true) G := by
  have lo : ∀ (ks : List Nat) (o2 : Option Val), (∀ k ∈ ks, k < 13) → ∃ p2, forIt (.nm 2) b__law_looks_l1 (ks.map fun (k : Nat) => Val.int (k : Int)) [some (.obj x.M), some (.obj y.D), o2] G = .next [some (.obj x.M), some (.obj y.D), p2] G := by
    intro ks
    induction ks with
    | nil => intro o _; exact ⟨o, rfl⟩
    | cons k ks ih =>
      intro o2 hk
      have hk13 := hk k (List.mem_cons_self ..)
      obtain ⟨p2, e⟩ := ih (some (.int (k : Int))) fun j hj => hk j (List.mem_cons_of_mem _ hj)
      refine ⟨p2, ?_⟩
      have hkc : k < m.cells := by omega
      obtain ⟨e1, e2⟩ := tr_get wf hkc
      obtain ⟨e6, e7⟩ := cur_at wf hkc e1
      obtain ⟨w, a1, a2, _⟩ := h.at_ e1
      have a3 := fIx_lastI a2.items.1 e6
      have pk := s_peek hm wf hkc
      have sm := s_same (G := G) (v := m.cur k) (.inl e7)
      have eb : b__law_looks_l1 [some (.obj x.M), some (.obj y.D), some (.int (k : Int))] G = .next [some (.obj x.M), some (.obj y.D), some (.int (k : Int))] G := by
        unfold b__law_looks_l1
        by_cases h3 : 3 ≤ k
        · have hl : m.last k = true := by unfold Me.last; rw [ht, hc]; simp; omega
          have t := s_trail hm wf hkc hl
          obtain ⟨v0, q1, q2⟩ := s_lasting hm wf hkc hl
          have n1 := fNe_it (pv_tr pv) a2
          obtain ⟨r, er⟩ : ∃ r, m.tr k = v0 :: r := by
            cases e0 : m.tr k with
            | nil => exact absurd e0 e2
            | cons a r => rw [e0] at q1; cases q1; exact ⟨r, rfl⟩
          have i0 := a2.items.1
          rw [er] at i0
          have z0 := fIx_0I i0
          have n2 := fNe_p (G := G) (pv_tr (c := k) pv v0 (by rw [er]; exact List.mem_cons_self ..))
          have h3' : (3 : Int) ≤ (k : Int) := by omega
          simp [methV_1 hm.mem, pk, h.f15, a1, a3, sm, h3', h3, t, n1, q2, z0, n2]
        · have h3' : ¬ (3 : Int) ≤ (k : Int) := by omega
          simp [methV_1 hm.mem, pk, h.f15, a1, a3, sm, h3', h3]
      rw [List.map_cons, v_forCons]
      simp only [pt_nm, List.set_cons_succ, List.set_cons_zero]
      rw [eb]
      exact e
  obtain ⟨p2, lo⟩ := lo (List.range' 0 13) none (fun k hk => by simpa using hk)
  have rg : rng1 [.int 13] = some ((List.range' 0 13).map fun (k : Nat) => Val.int (k : Int)) := rng1_nat (n := 13) (by omega)
  have f := mf_count hm
  have eq : fEqA (.int (m.count : Int)) (.int (m.count : Int)) G = .ok (.bl true) G := fEqA_self rfl
  unfold m__law_looks b__law_looks
  rw [run_eq (by rfl)]
  generalize (List.range' 0 13).map (fun (k : Nat) => Val.int (k : Int)) = rl at rg lo
  simp [rg, lo, f, h.f17, eq]
end
noncomputable def ts0 : SM := (sIf (eTest (eOp fEqA (eOp fMod (eVar 2) (eC (.int 11))) (eC (.int 10)))) (sRet (eOp fEqA (eCallF m__law_wrong [] (aCons (eVar 0) (aCons (eVar 3) aNil))) (eLst true (aCons (eC (.str 12)) (aCons (eC (.bl true)) aNil))))) sPass)
noncomputable def ts1 : SM := (sIf (eTest (eOp fEqA (eOp fMod (eVar 2) (eC (.int 11))) (eC (.int 9)))) (sSeq (sSet 8 (eOp fIx (eLst true (aCons (eC (.int 5)) (aCons (eC (.int 6)) (aCons (eC (.int 7)) (aCons (eC (.int 3)) aNil))))) (eOp fMod (eVar 3) (eC (.int 4))))) (sSeq (sIf (eTest (eOp fIsNot (eCallF m__law_do [] (aCons (eVar 0) (aCons (eC (.str 11)) (aCons (eVar 8) (aCons (eOp fMod (eVar 4) (eC (.int 5))) aNil))))) (eC .non))) (sRet (eC (.bl false))) sPass) (sSeq (sEx (eCallF m__law_shorten [] (aCons (eVar 1) (aCons (eVar 8) (aCons (eOp fMod (eVar 4) (eC (.int 5))) aNil))))) (sRet (eC (.bl true)))))) sPass)
noncomputable def ts2 : SM := (sIf (tAnd1 (eTest (eOp fEqA (eOp fMod (eVar 2) (eC (.int 11))) (eC (.int 8)))) (eTest (eOp fEqA (eOp fMod (eVar 3) (eC (.int 3))) (eC (.int 0))))) (sSeq (sSet 9 (eLcFR true rng1 (aCons (eOp fMod (eVar 3) (eC (.int 13))) aNil) (.nm 11) tTrue (eOp (fMul true) (eOp fMod (eOp (fAdd true) (eVar 4) (eOp (fMul true) (eC (.int 3)) (eVar 11))) (eC (.int 4))) (eOp fMod (eOp (fAdd true) (eOp fDiv (eVar 3) (eC (.int 3))) (eVar 11)) (eC (.int 2)))) [11])) (sSeq (sSet 10 (eCall (bListA true) (aCons (eVar 9) aNil))) (sSeq (sSet 7 (eCallF m__law_do [] (aCons (eVar 0) (aCons (eC (.str 13)) (aCons (eVar 10) (aCons (eC .non) aNil)))))) (sSeq (sEx (eCallF m__law_cut [] (aCons (eVar 1) (aCons (eVar 9) aNil)))) (sRet (eAnd (eOp fIs (eVar 7) (eC .non)) (eOp fEqA (eVar 10) (eVar 9)))))))) sPass)
noncomputable def ts3 : SM := (sSet 5 (eCallF m__law_request [] (aCons (eVar 1) (aCons (eOp fDiv (eVar 2) (eC (.int 11))) (aCons (eVar 3) (aCons (eVar 4) aNil))))))
noncomputable def ts4 : SM := (sPut (eVar 1) (eC (.str 17)) (eOp (fAdd false) (eOp fIx (eVar 1) (eC (.str 17))) (eC (.int 1))))
noncomputable def ts5 : SM := (sSet 6 (eCallF m__law_due [] (aCons (eVar 1) (aCons (eOp fMod (eOp fDiv (eVar 2) (eC (.int 110))) (eC (.int 2))) (aCons (eVar 5) aNil)))))
noncomputable def ts6 : SM := (sSet 7 (eCallF m__law_do [] (aCons (eVar 0) (aCons (eC (.str 10)) (aCons (eOp fMod (eOp fDiv (eVar 2) (eC (.int 110))) (eC (.int 2))) (aCons (eVar 5) aNil))))))
noncomputable def ts7 : SM := (sRet (eAnd (eIsi "tuple" (eVar 7)) (eAnd (eOp fEqA (eCall bLen (aCons (eVar 7) aNil)) (eC (.int 2))) (eAnd (eOp fEqA (eOp fIx (eVar 7) (eC (.int 1))) (eOp fIx (eVar 1) (eC (.str 17)))) (eCallF m__law_same [] (aCons (eOp fIx (eVar 7) (eC (.int 0))) (aCons (eVar 6) aNil)))))))
theorem ts_eq : b__law_step = sSeq ts0 (sSeq ts1 (sSeq ts2 (sSeq ts3 (sSeq ts4 (sSeq ts5 (sSeq ts6 ts7)))))) := rfl
/-! ### law k02: a step, the law -/
section
variable {x : Mx} {y : Wx} {m : Me} {G G1 : Store} {u v : Val} {M D k : Nat}
structure J2 (k M D : Nat) (x : Mx) (y : Wx) (m : Me) (G : Store) : Prop where
  at_ : MemAt x m G
  wf : m.Wf
  t : m.t = 2
  w : m.w = 2
  r : m.r = 6
  cnt : m.count ≤ k
  rl : m.rows.length = m.count
  pv : PV m
  nn : nnN m.notes
  ls : W2 x y m.trails m.notes m.count G
  xM : x.M = M
  yD : y.D = D
theorem J2.cells (j : J2 k M D x y m G) : m.cells = 13 := by
  unfold Me.cells
  rw [j.t, j.w, j.r]
theorem J2.mono (j : J2 k M D x y m G) : J2 (k + 1) M D x y m G := ⟨j.at_, j.wf, j.t, j.w, j.r, Nat.le_succ_of_le j.cnt, j.rl, j.pv, j.nn, j.ls, j.xM, j.yD⟩
theorem note_len (wf : m.Wf) : ∀ d ∈ m.notes, d.length ≤ m.cells := fun d hd => by
  have h := List.Nodup.length_le_of_subset (l₁ := Keys d) (l₂ := (List.range m.cells).map fun (c : Nat) => (c : Int)) (wf.nk d hd) fun k hk => by
    obtain ⟨c, e, hc, _⟩ := wf.nc d hd k hk
    exact List.mem_map.mpr ⟨c, List.mem_range.mpr hc, e.symm⟩
  rwa [List.length_map, List.length_map, List.length_range] at h
theorem st_wrong (j : J2 k M D x y m G) {a b c : Int} (ha : a % 11 = 10) : m__law_step [.obj M, .obj D, .int a, .int b, .int c] G = .ok (.bl true) G := by
  have m11 : ∀ (a : Int) (J : Store), fMod (.int a) (.int 11) J = .ok (.int (a % 11)) J := fun a J => fMod_ii (by decide)
  have w := s_wrong j.at_ j.wf j.t j.cells (n := b)
  rw [j.xM] at w
  have q : fEqA refV refV G = .ok (.bl true) G := fEqA_self (d := .list [.str (nm 12), .bool true]) rfl
  unfold m__law_step b__law_step
  rw [run_eq (by rfl)]
  simp [m11, ha, w, q]
theorem shorten_same2 {c : Nat} {s : Int} : (m.shorten c s).t = m.t ∧ (m.shorten c s).w = m.w ∧ (m.shorten c s).r = m.r ∧ (m.shorten c s).count = m.count ∧ (m.shorten c s).rows = m.rows := ⟨rfl, rfl, rfl, rfl, rfl⟩
theorem st_drift (j : J2 k M D x y m G) {a b c : Int} (ha : a % 11 = 9) : ∃ x' y' m' G', m__law_step [.obj M, .obj D, .int a, .int b, .int c] G = .ok (.bl true) G' ∧ J2 (k + 1) M D x' y' m' G' := by
  have m11 : ∀ (a : Int) (J : Store), fMod (.int a) (.int 11) J = .ok (.int (a % 11)) J := fun a J => fMod_ii (by decide)
  have m4 : ∀ (a : Int) (J : Store), fMod (.int a) (.int 4) J = .ok (.int (a % 4)) J := fun a J => fMod_ii (by decide)
  have m5 : ∀ (a : Int) (J : Store), fMod (.int a) (.int 5) J = .ok (.int (a % 5)) J := fun a J => fMod_ii (by decide)
  obtain ⟨n, hn1, hn2, en⟩ : ∃ n : Nat, 3 ≤ n ∧ n < 13 ∧ fIx (.fro [.int 5, .int 6, .int 7, .int 3]) (.int (b % 4)) G = .ok (.int (n : Int)) G := by
    obtain ⟨i, hi, ei⟩ : ∃ i : Nat, i < 4 ∧ b % 4 = (i : Int) := ⟨(b % 4).toNat, by omega, by omega⟩
    rw [ei]
    match i, hi with
    | 0, _ => exact ⟨5, by omega, by omega, fIx_fro (k := 0) rfl⟩
    | 1, _ => exact ⟨6, by omega, by omega, fIx_fro (k := 1) rfl⟩
    | 2, _ => exact ⟨7, by omega, by omega, fIx_fro (k := 2) rfl⟩
    | 3, _ => exact ⟨3, by omega, by omega, fIx_fro (k := 3) rfl⟩
  have hnc : n < m.cells := by rw [j.cells]; exact hn2
  have hl : m.last n = true := by unfold Me.last; rw [j.t, j.cells]; simp; omega
  have c0 := Int.emod_nonneg c (show (5 : Int) ≠ 0 by decide)
  obtain ⟨x1, G1, e1, h1, f1⟩ := s_drift j.at_ j.wf hnc hl j.wf.hnd c0
  have hm := j.at_.mem
  have d := do_dri e1 hm
  have w1 := j.ls.fr f1
  obtain ⟨y2, G2, e2, w2, f2⟩ := w_shorten (s := c % 5) h1 w1 j.wf j.nn hnc
  rw [j.xM] at d
  rw [j.yD] at e2
  refine ⟨x1, y2, _, G2, ?_, ⟨f2.mem h1 w1, wf_shorten j.wf hnc, j.t, j.w, j.r, Nat.le_succ_of_le j.cnt, j.rl, pv_shorten j.pv, nn_map j.nn, w2, f1.M.trans j.xM, f2.D.trans j.yD⟩⟩
  unfold m__law_step b__law_step
  rw [run_eq (by rfl)]
  simp [m11, ha, m4, en, m5, d, e2]
theorem st_cut (j : J2 k M D x y m G) {a b c : Int} (ha : a % 11 = 8) (hb : b % 3 = 0) : ∃ x' y' m' G', m__law_step [.obj M, .obj D, .int a, .int b, .int c] G = .ok (.bl true) G' ∧ J2 (k + 1) M D x' y' m' G' := by
  have m11 : ∀ (a : Int) (J : Store), fMod (.int a) (.int 11) J = .ok (.int (a % 11)) J := fun a J => fMod_ii (by decide)
  have m13 : ∀ (a : Int) (J : Store), fMod (.int a) (.int 13) J = .ok (.int (a % 13)) J := fun a J => fMod_ii (by decide)
  have m4 : ∀ (a : Int) (J : Store), fMod (.int a) (.int 4) J = .ok (.int (a % 4)) J := fun a J => fMod_ii (by decide)
  have m3 : ∀ (a : Int) (J : Store), fMod (.int a) (.int 3) J = .ok (.int (a % 3)) J := fun a J => fMod_ii (by decide)
  have m2 : ∀ (a : Int) (J : Store), fMod (.int a) (.int 2) J = .ok (.int (a % 2)) J := fun a J => fMod_ii (by decide)
  have d3 : ∀ (a : Int) (J : Store), fDiv (.int a) (.int 3) J = .ok (.int (a / 3)) J := fun a J => fDiv_ii (by decide) (by decide)
  obtain ⟨n, hn, en⟩ : ∃ n : Nat, n < 13 ∧ b % 13 = (n : Int) := ⟨(b % 13).toNat, by omega, by omega⟩
  let ch : List Int := (List.range' 0 n).map fun (k : Nat) => (c + 3 * (k : Int)) % 4 * ((b / 3 + (k : Int)) % 2)
  have hch : ∀ s ∈ ch, 0 ≤ s := fun s hs => by
    obtain ⟨k, _, rfl⟩ := List.mem_map.mp hs
    have h1 := Int.emod_nonneg (c + 3 * (k : Int)) (show (4 : Int) ≠ 0 by decide)
    have h2 := Int.emod_nonneg (b / 3 + (k : Int)) (show (2 : Int) ≠ 0 by decide)
    exact Int.mul_nonneg h1 h2
  have cp : ∀ ρ : Env1, ρ[3]? = some (some (.int b)) → ρ[4]? = some (some (.int c)) → ρ.length = 12 → eLcFR true rng1 (aCons (eOp fMod (eVar 3) (eC (.int 13))) aNil) (.nm 11) tTrue (eOp (fMul true) (eOp fMod (eOp (fAdd true) (eVar 4) (eOp (fMul true) (eC (.int 3)) (eVar 11))) (eC (.int 4))) (eOp fMod (eOp (fAdd true) (eOp fDiv (eVar 3) (eC (.int 3))) (eVar 11)) (eC (.int 2)))) [11] ρ G = .ok (.fro (ch.map .int)) G := fun ρ h3 h4 hl => by
    rw [eLcFR_of (vs := [.int (n : Int)]) (l := (List.range' 0 n).map fun (k : Nat) => Val.int (k : Int)) (f := fun _ => true) (g := fun v => match v with | .int k => .int ((c + 3 * k) % 4 * ((b / 3 + k) % 2)) | _ => .non)]
    · rw [List.filter_eq_self.mpr fun _ _ => rfl, List.map_map, mkL_t, List.map_map]
      rfl
    · simp [h3, m13, en]
    · exact rng1_nat (by omega)
    · simp; omega
    · intro v hv
      obtain ⟨i, _, rfl⟩ := List.mem_map.mp hv
      have e3 : ((wipe1 ρ [11]).set 11 (some (.int (i : Int))))[3]? = some (some (.int b)) := by rw [List.getElem?_set_ne (by decide)]; simp [wipe1, h3]
      have e4 : ((wipe1 ρ [11]).set 11 (some (.int (i : Int))))[4]? = some (some (.int c)) := by rw [List.getElem?_set_ne (by decide)]; simp [wipe1, h4]
      have e11 : ((wipe1 ρ [11]).set 11 (some (.int (i : Int))))[11]? = some (some (.int (i : Int))) := by rw [List.getElem?_set_self (by simp [wipe1]; omega)]
      refine ⟨_, rfl, rfl, fun _ => ?_⟩
      have u1 : fMul true (.int 3) (.int (i : Int)) G = .ok (.int (3 * (i : Int))) G := fMul_l (by rfl)
      have u2 : fMul true (.int ((c + 3 * (i : Int)) % 4)) (.int ((b / 3 + (i : Int)) % 2)) G = .ok (.int ((c + 3 * (i : Int)) % 4 * ((b / 3 + (i : Int)) % 2))) G := fMul_l (by
        have h1 := Int.emod_nonneg (c + 3 * (i : Int)) (show (4 : Int) ≠ 0 by decide)
        have h2 := Int.emod_lt_of_pos (c + 3 * (i : Int)) (show (0 : Int) < 4 by decide)
        generalize (c + 3 * (i : Int)) % 4 = z at h1 h2
        unfold inRng
        simp
        omega)
      simp [e3, e4, e11, u1, m4, d3, m2, u2]
  obtain ⟨x1, G1, e1, h1, wf1, f1⟩ := s_cut j.at_ j.wf (by rw [j.t]; decide) hch
  have hm := j.at_.mem
  have d := do_cut (b := .non) e1 hm
  have w1 := j.ls.fr f1
  obtain ⟨y2, G2, e2, w2, f2⟩ := s_lcut (ch := ch) h1 w1 j.wf j.nn j.t j.cells
  rw [j.xM] at d
  rw [j.yD] at e2
  have sm : (m.cut ch).t = m.t ∧ (m.cut ch).w = m.w ∧ (m.cut ch).r = m.r ∧ (m.cut ch).count = m.count ∧ (m.cut ch).rows = m.rows := by
    have a1 := cutL_same (m := m) (ch := ch)
    have a2 := cutP_same (m := m.cutL ch)
    exact ⟨a2.1.trans a1.1, a2.2.1.trans a1.2.1, a2.2.2.1.trans a1.2.2.1, a2.2.2.2.1.trans a1.2.2.2.1, a2.2.2.2.2.trans a1.2.2.2.2⟩
  have nn : nnN (m.cut ch).notes := fun d hd => by
    have : d ∈ List.replicate ((m.cutL ch).cutP).t ([] : Prs) := hd
    rw [List.eq_of_mem_replicate this]
    intro k a h
    cases h
  have w2' : W2 x1 y2 (m.cut ch).trails (m.cut ch).notes (m.cut ch).count G2 := by rw [sm.2.2.2.1]; exact w2
  refine ⟨x1, y2, _, G2, ?_, ⟨f2.mem h1 w1, wf1, sm.1.trans j.t, sm.2.1.trans j.w, sm.2.2.1.trans j.r, by rw [sm.2.2.2.1]; exact Nat.le_succ_of_le j.cnt, by rw [sm.2.2.2.1, sm.2.2.2.2]; exact j.rl, pv_cut j.pv, nn, w2', f1.M.trans j.xM, f2.D.trans j.yD⟩⟩
  have eq : fEqA (.fro (ch.map .int)) (.fro (ch.map .int)) G2 = .ok (.bl true) G2 := by
    refine fEqA_self (d := .list (ch.map .int)) ?_
    show (optAll (toD G2 39) (ch.map .int)).map PyData.list = _
    have : ∀ l : List Int, optAll (toD G2 39) (l.map .int) = some (l.map .int) := by
      intro l
      induction l with
      | nil => rfl
      | cons a l ih =>
        rw [List.map_cons]
        unfold optAll
        rw [ih]
        rfl
    rw [this]
    rfl
  have bl : bListA true [.fro (ch.map .int)] G = .ok (.fro (ch.map .int)) G := by simp
  generalize ch.map Val.int = chv at cp d e2 eq bl
  unfold m__law_step b__law_step
  rw [run_eq (by rfl)]
  simp [m11, ha, m3, hb, cp, bl, d, e2, eq]
theorem fAdd_f_ii {a b : Int} : fAdd false (.int a) (.int b) G = .ok (.int (a + b)) G := rfl
theorem W2.count {T : List (List Val)} {N : List Prs} {cnt c2 : Nat} (h : W2 x y T N cnt G) : putA (.obj y.D) (.str 17) (.int (c2 : Int)) G = some (G.set y.D (wDic y.TR y.N c2)) ∧ W2 x y T N c2 (G.set y.D (wDic y.TR y.N c2)) ∧ Fw y G y (G.set y.D (wDic y.TR y.N c2)) := by
  have p := putA_dicS (s := 17) (w := .int (c2 : Int)) h.dic (by simp)
  have ed : putKy [((.inr 17 : Ky), Val.int (cnt : Int)), (.inr 15, .obj y.TR), (.inr 16, .obj y.N)] (.inr 17) (.int (c2 : Int)) = [(.inr 17, .int (c2 : Int)), (.inr 15, .obj y.TR), (.inr 16, .obj y.N)] := rfl
  rw [ed] at p
  obtain ⟨⟨d1, d2, d3⟩, _⟩ := h.ne
  have k : ∀ j, j ≠ y.D → (G.set y.D (wDic y.TR y.N c2))[j]? = G[j]? := fun j hj => List.getElem?_set_ne (Ne.symm hj)
  exact ⟨p, ⟨by rw [List.getElem?_set_self (h.lt y.D (.inl (by simp [Wx.own])))], by rw [k _ (Ne.symm d1)]; exact h.tr, h.tl, fun i v l h1 h2 => (h.its i v l h1 h2).stay fun o ho => k o fun z => (h.ao o (by rw [← ho]; exact List.mem_of_getElem? h1)).2 (by rw [z]; simp [Wx.own]), by rw [k _ (Ne.symm d2)]; exact h.no, h.nos.stay fun o ho => k o fun z => d3 (z ▸ ho), h.nd, fun j hj => (h.ap j hj).set, fun o ho => ⟨(h.ao o ho).1.set, (h.ao o ho).2⟩⟩, ⟨rfl, fun j h1 h2 => k j fun z => h2 (by rw [z]; simp [Wx.own]), by rw [List.length_set]; exact Nat.le_refl _, fun j hj => .inl hj⟩⟩
theorem res_val {th : Nat} {q : Rq} : (m.accA th q).1 = .tup [m.due th q, .int ((m.count : Int) + 1)] := by
  cases q <;> rfl
theorem due_ok (wf : m.Wf) {th : Nat} {q : Rq} (hq : q.ok m) : okV (m.due th q) ∨ ∃ b, m.due th q = .bl b := by
  cases q with
  | read c =>
    obtain ⟨e1, e2⟩ := tr_get wf (show c < m.cells from hq)
    exact .inl (cur_at wf hq e1).2
  | write c v => exact .inl ok_non
  | swap c a b =>
    right
    show ∃ b', (if sameV (m.cur c) a = true then (Val.bl true, (m.tick th (.swap c a b)).give c b) else (Val.bl false, m.tick th (.swap c a b))).1 = .bl b'
    split
    · exact ⟨true, rfl⟩
    · exact ⟨false, rfl⟩
  | decide c v =>
    right
    show ∃ b', (if sameV (m.cur c) (.int 0) = true then (Val.bl true, (m.tick th (.decide c v)).give c (.tup [v, .int ((m.count + 1 : Nat) : Int)])) else (Val.bl false, m.tick th (.decide c v))).1 = .bl b'
    split
    · exact ⟨true, rfl⟩
    · exact ⟨false, rfl⟩
  | flush c => exact .inl ok_non
  | fence => exact .inl ok_non
theorem rows_acc {th : Nat} {q : Rq} : (m.accA th q).2.rows.length = m.rows.length + 1 := by
  have key : (m.accA th q).2.rows = (m.tick th q).rows := by
    cases q with
    | read c => rfl
    | write c v => rfl
    | swap c a b =>
      show (if sameV (m.cur c) a = true then (Val.bl true, (m.tick th (.swap c a b)).give c b) else (Val.bl false, m.tick th (.swap c a b))).2.rows = _
      split <;> rfl
    | decide c v =>
      show (if sameV (m.cur c) (.int 0) = true then (Val.bl true, (m.tick th (.decide c v)).give c (.tup [v, .int ((m.count + 1 : Nat) : Int)])) else (Val.bl false, m.tick th (.decide c v))).2.rows = _
      split <;> rfl
    | flush c => rfl
    | fence => exact fence_count.2.1
  rw [key]
  show (m.rows ++ _).length = _
  simp
theorem accA_same2 {th : Nat} {q : Rq} : (m.accA th q).2.count = m.count + 1 ∧ (m.accA th q).2.t = m.t ∧ (m.accA th q).2.w = m.w ∧ (m.accA th q).2.r = m.r := by
  cases q with
  | read c => exact ⟨rfl, rfl, rfl, rfl⟩
  | write c v => exact ⟨rfl, rfl, rfl, rfl⟩
  | swap c a b =>
    have : (m.accA th (.swap c a b)).2 = (if sameV (m.cur c) a = true then (Val.bl true, (m.tick th (.swap c a b)).give c b) else (Val.bl false, m.tick th (.swap c a b))).2 := rfl
    rw [this]
    split <;> exact ⟨rfl, rfl, rfl, rfl⟩
  | decide c v =>
    have : (m.accA th (.decide c v)).2 = (if sameV (m.cur c) (.int 0) = true then (Val.bl true, (m.tick th (.decide c v)).give c (.tup [v, .int ((m.count + 1 : Nat) : Int)])) else (Val.bl false, m.tick th (.decide c v))).2 := rfl
    rw [this]
    split <;> exact ⟨rfl, rfl, rfl, rfl⟩
  | flush c => exact ⟨rfl, rfl, rfl, rfl⟩
  | fence =>
    obtain ⟨a, b, c, d, e⟩ := fence_count (m := m.tick th .fence) (th := th)
    exact ⟨a, c, d, e⟩
theorem st_acc (j : J2 k M D x y m G) (hk : k < 1000) {a b c : Int} (h1 : a % 11 ≠ 10) (h2 : a % 11 ≠ 9) (h3 : ¬ (a % 11 = 8 ∧ b % 3 = 0)) : ∃ x' y' m' G', m__law_step [.obj M, .obj D, .int a, .int b, .int c] G = .ok (.bl true) G' ∧ J2 (k + 1) M D x' y' m' G' := by
  have m11 : ∀ (a : Int) (J : Store), fMod (.int a) (.int 11) J = .ok (.int (a % 11)) J := fun a J => fMod_ii (by decide)
  have m3 : ∀ (a : Int) (J : Store), fMod (.int a) (.int 3) J = .ok (.int (a % 3)) J := fun a J => fMod_ii (by decide)
  have m2 : ∀ (a : Int) (J : Store), fMod (.int a) (.int 2) J = .ok (.int (a % 2)) J := fun a J => fMod_ii (by decide)
  have d11 : ∀ (a : Int) (J : Store), fDiv (.int a) (.int 11) J = .ok (.int (a / 11)) J := fun a J => fDiv_ii (by decide) (by decide)
  have d110 : ∀ (a : Int) (J : Store), fDiv (.int a) (.int 110) J = .ok (.int (a / 110)) J := fun a J => fDiv_ii (by decide) (by decide)
  obtain ⟨th, hth, eth⟩ : ∃ th : Nat, th < 2 ∧ a / 110 % 2 = (th : Int) := ⟨(a / 110 % 2).toNat, by omega, by omega⟩
  obtain ⟨q, hq, qp, eq⟩ := s_request (i := a / 11) (j := b) (k := c) j.ls j.wf j.t j.cells j.pv
  have hcnt := j.cnt
  obtain ⟨pc, wc, fc⟩ := j.ls.count (c2 := m.count + 1)
  generalize hGc : G.set y.D (wDic y.TR y.N (m.count + 1)) = Gc at pc wc fc
  have hmc := fc.mem j.at_ j.ls
  have n64 : ∀ d ∈ m.notes, d.length < 64 := fun d hd => by
    have := note_len j.wf d hd
    rw [j.cells] at this
    omega
  obtain ⟨y2, G2, ed, w2, f2, nn2⟩ := s_due hmc wc j.wf j.nn j.t (by omega) hq hth n64
  have hm2 := f2.mem hmc wc
  obtain ⟨x3, G3, ea, hm3, wf3, f3⟩ := s_accessA hm2 j.wf (by omega) hq (th := th) (by rw [j.t]; exact hth) (by
    cases e : m.notes[th]? with
    | none => simp
    | some d => exact n64 d (List.mem_of_getElem? e))
  have w3 := w2.fr f3
  have sm := accA_same2 (m := m) (th := th) (q := q)
  have da := do_acc ea hm2.mem
  rw [res_val] at da
  have ss := fun G => s_same (G := G) (due_ok j.wf (th := th) hq)
  have w3' : W2 x3 y2 (m.accA th q).2.trails (m.accA th q).2.notes (m.accA th q).2.count G3 := by rw [sm.1]; exact w3
  refine ⟨x3, y2, _, G3, ?_, ⟨hm3, wf3, sm.2.1.trans j.t, sm.2.2.1.trans j.w, sm.2.2.2.trans j.r, by rw [sm.1]; omega, by rw [rows_acc, sm.1, j.rl], pv_accA j.pv qp, nn2, w3', f3.M.trans j.xM, (f2.D.trans fc.D).trans j.yD⟩⟩
  have f17 := j.ls.f17
  have f17b := w3.f17
  have yD2 : y2.D = D := (f2.D.trans fc.D).trans j.yD
  have cc : ((m.count + 1 : Nat) : Int) = (m.count : Int) + 1 := by simp
  rw [j.yD] at eq pc f17 ed
  rw [yD2] at f17b
  rw [j.xM] at da
  rw [cc] at pc f17b
  have e2 : fEqA (.int 2) (.int 2) G3 = .ok (.bl true) G3 := fEqA_self rfl
  have e3 : ∀ i : Int, fEqA (.int i) (.int i) G3 = .ok (.bl true) G3 := fun i => fEqA_self rfl
  generalize q.val = qv at eq ed da
  generalize m.due th q = dv at ed da ss
  unfold m__law_step
  rw [run_eq (by rfl), ts_eq]
  show fin (sSeq ts0 _ [some (.obj M), some (.obj D), some (.int a), some (.int b), some (.int c), none, none, none, none, none, none, none] G) = _
  have t0 : ts0 [some (.obj M), some (.obj D), some (.int a), some (.int b), some (.int c), none, none, none, none, none, none, none] G = .next [some (.obj M), some (.obj D), some (.int a), some (.int b), some (.int c), none, none, none, none, none, none, none] G := by
    unfold ts0
    simp [m11, h1]
  have t1 : ts1 [some (.obj M), some (.obj D), some (.int a), some (.int b), some (.int c), none, none, none, none, none, none, none] G = .next [some (.obj M), some (.obj D), some (.int a), some (.int b), some (.int c), none, none, none, none, none, none, none] G := by
    unfold ts1
    simp [m11, h2]
  have t2 : ts2 [some (.obj M), some (.obj D), some (.int a), some (.int b), some (.int c), none, none, none, none, none, none, none] G = .next [some (.obj M), some (.obj D), some (.int a), some (.int b), some (.int c), none, none, none, none, none, none, none] G := by
    unfold ts2
    by_cases h8 : a % 11 = 8
    · have h9 : ¬ b % 3 = 0 := fun z => h3 ⟨h8, z⟩
      simp [m11, h8, m3, h9]
    · simp [m11, h8]
  rw [seq_next t0, seq_next t1, seq_next t2]
  unfold ts3 ts4 ts5 ts6 ts7
  simp [d11, eq, f17, fAdd_f_ii, pc, d110, m2, eth, ed, da, isTy, e2, f17b, e3, ss]
end
section
variable {G : Store} {x : Mx} {m : Me}
theorem lcF_allocV {p : Pt} {te : EM} {ρ : Env1} {o : Val → Ob} : ∀ (l : List Val) (G J : Store), (∀ v ∈ l, ∀ J, ∃ ρ2, ptSet (G ++ J) p v ρ = some ρ2 ∧ te ρ2 (G ++ J) = .ok (.obj (G ++ J).length) (G ++ J ++ [o v])) → lcF p tTrue te ρ l (G ++ J) = .ok ((List.range' (G ++ J).length l.length).map Val.obj) (G ++ J ++ l.map o)
  | [], G, J, _ => by
    unfold lcF
    simp
  | v :: l, G, J, h => by
    obtain ⟨ρ2, e1, e2⟩ := h v (List.mem_cons_self ..) J
    have ih := lcF_allocV l G (J ++ [o v]) fun w hw => h w (List.mem_cons_of_mem _ hw)
    rw [← List.append_assoc] at ih
    unfold lcF lcFT
    simp only [e1, tTrue_ok, bind_ok, if_true, e2, ih]
    simp [List.range'_succ, Nat.add_assoc]
theorem objs_map {α : Type} {e : α → Ob} : ∀ (as : List α) (G J : Store), Objs e (G ++ as.map e ++ J) (List.range' G.length as.length) as
  | [], G, J => trivial
  | a :: as, G, J => by
    have ih := objs_map (e := e) as (G ++ [e a]) J
    rw [List.length_append, List.length_singleton] at ih
    rw [List.length_cons, List.range'_succ]
    refine ⟨by simp, ?_⟩
    have e1 : G ++ (a :: as).map e ++ J = G ++ [e a] ++ as.map e ++ J := by simp
    rw [e1]
    exact ih
end
noncomputable def tl0 : SM := (sSet 1 (eCallF m__law_tape [] (aCons (eVar 0) aNil)))
noncomputable def tl1 : SM := (sSet 2 (eMake 1 m_Memory_init [] (aCons (eMake 0 m_Layout_init [] (aCons (eC (.int 2)) (aCons (eC (.int 2)) (aCons (eC (.int 6)) aNil)))) aNil)))
noncomputable def tl2 : SM := (sSet 3 (eCall (bDictX false) (aCons (eLst true (aCons (eTup (aCons (eC (.str 17)) (aCons (eC (.int 0)) aNil))) aNil)) aNil)))
noncomputable def tl3 : SM := (sPut (eVar 3) (eC (.str 15)) (eLcFR false rng1 (aCons (eC (.int 13)) aNil) (.nm 5) tTrue (eLst false (aCons (eMeth [(1, m_Memory_peek)] [] (eVar 2) (aCons (eVar 5) aNil)) aNil)) [5]))
noncomputable def tl4 : SM := (sPut (eVar 3) (eC (.str 16)) (eLst false (aCons (eDic0 false) (aCons (eDic0 false) aNil))))
noncomputable def tl5 : SM := (sForR rng1 (aCons (eCall bMin (aCons (eOp fIx (eLst true (aCons (eC (.int 30)) (aCons (eC (.int 90)) aNil))) (eOp fMod (eCallF m__law_at [] (aCons (eVar 1) (aCons (eC (.int 0)) aNil))) (eC (.int 2)))) (aCons (eCall bMax (aCons (eC (.int 0)) (aCons (eOp fDiv (eOp fSub (eCall bLen (aCons (eVar 1) aNil)) (eC (.int 1))) (eC (.int 3))) aNil))) aNil))) aNil) (.nm 4) b_law_l1)
noncomputable def tl6 : SM := (sRet (eOp fEqA (eCall bLen (aCons (eMeth [(1, m_Memory_log)] [] (eVar 2) aNil) aNil)) (eOp fIx (eVar 3) (eC (.str 17)))))
theorem tl_eq : b_law = sSeq tl0 (sSeq tl1 (sSeq tl2 (sSeq tl3 (sSeq tl4 (sSeq tl5 tl6))))) := rfl
/-! ### law k02: the law -/
section
variable {x : Mx} {y : Wx} {m : Me} {G G1 : Store} {u v sc : Val} {M D k : Nat} {tp : List Int}
theorem for_step2 {b : SM} {p : Pt} {v : Val} {r : List Val} {ρ ρ1 ρ2 : Env1} {G G1 : Store} (h1 : ptSet G p v ρ = some ρ1) (h2 : b ρ1 G = .next ρ2 G1) : forIt p b (v :: r) ρ G = forIt p b r ρ2 G1 := by
  rw [v_forCons, h1]
  simp only [h2]
theorem step2 (j : J2 k M D x y m G) (hk : k < 1000) {a b c : Int} : ∃ x' y' m' G', m__law_step [.obj M, .obj D, .int a, .int b, .int c] G = .ok (.bl true) G' ∧ J2 (k + 1) M D x' y' m' G' := by
  by_cases h1 : a % 11 = 10
  · exact ⟨x, y, m, G, st_wrong j h1, j.mono⟩
  · by_cases h2 : a % 11 = 9
    · exact st_drift j h2
    · by_cases h3 : a % 11 = 8 ∧ b % 3 = 0
      · exact st_cut j h3.1 h3.2
      · exact st_acc j hk h1 h2 h3
theorem steps2 (n : Nat) : ∀ (k : Nat) (x : Mx) (y : Wx) (m : Me) (G : Store) (o4 o5 : Option Val), J2 k M D x y m G → k + n ≤ 1000 → ∃ p4 x' y' m' G', forIt (.nm 4) b_law_l1 ((List.range' k n).map fun (k : Nat) => Val.int (k : Int)) [some sc, some (.fro (tp.map .int)), some (.obj M), some (.obj D), o4, o5] G = .next [some sc, some (.fro (tp.map .int)), some (.obj M), some (.obj D), p4, o5] G' ∧ J2 (k + n) M D x' y' m' G' := by
  induction n with
  | zero =>
    intro k x y m G o4 o5 j _
    rw [List.range'_zero, List.map_nil, v_forNil]
    exact ⟨o4, x, y, m, G, rfl, j⟩
  | succ n ih =>
    intro k x y m G o4 o5 j hk
    have l3 : ∀ (i : Nat) (J : Store), m__law_at [.fro (tp.map .int), .int (3 * (k : Int) + (i : Int))] J = .ok (.int (lat tp (3 * k + i))) J := fun i J => by
      have := s_lat (G := J) (tp := tp) (k := 3 * k + i)
      have c : ((3 * k + i : Nat) : Int) = 3 * (k : Int) + (i : Int) := by simp
      rw [c] at this
      exact this
    have a1 : ∀ J, m__law_at [.fro (tp.map .int), .int (3 * (k : Int) + 1)] J = .ok (.int (lat tp (3 * k + 1))) J := fun J => l3 1 J
    have a2 : ∀ J, m__law_at [.fro (tp.map .int), .int (3 * (k : Int) + 2)] J = .ok (.int (lat tp (3 * k + 2))) J := fun J => l3 2 J
    have a3 : ∀ J, m__law_at [.fro (tp.map .int), .int (3 * (k : Int) + 3)] J = .ok (.int (lat tp (3 * k + 3))) J := fun J => l3 3 J
    have mu : ∀ J, fMul true (.int 3) (.int (k : Int)) J = .ok (.int (3 * (k : Int))) J := fun J => fMul_l (by rfl)
    obtain ⟨x', y', m', G', e, j'⟩ := step2 j (by omega) (a := lat tp (3 * k + 1)) (b := lat tp (3 * k + 2)) (c := lat tp (3 * k + 3))
    have lk := s_looks j'.at_ j'.ls j'.wf j'.t j'.cells j'.pv
    rw [j'.xM, j'.yD] at lk
    have eb : b_law_l1 [some sc, some (.fro (tp.map .int)), some (.obj M), some (.obj D), some (.int (k : Int)), o5] G = .next [some sc, some (.fro (tp.map .int)), some (.obj M), some (.obj D), some (.int (k : Int)), o5] G' := by
      unfold b_law_l1
      simp [mu, a1, a2, a3, e, lk]
    obtain ⟨p4, x2, y2, m2, G2, ih, j2⟩ := ih (k + 1) x' y' m' G' (some (.int (k : Int))) o5 j' (by omega)
    refine ⟨p4, x2, y2, m2, G2, ?_, by rw [show k + (n + 1) = k + 1 + n by omega]; exact j2⟩
    rw [List.range'_succ, List.map_cons, for_step2 pt_nm eb]
    exact ih
theorem trunc_fro {l : List Val} : trunc G (.ok (.fro l) G) = .ok (.fro l) G := by
  unfold trunc
  dsimp only
  rw [if_pos (by simp)]
  have : frzV G.length G (.fro l) = if clo G.length (.fro l) = true then some (.fro l) else none := rfl
  rw [this]
  split
  · rename_i w h
    split at h
    · cases h; rfl
    · cases h
  · rfl
theorem s_log (h : MemAt x m G) : m_Memory_log [.obj x.M] G = .ok (.fro m.rows) G := by
  unfold m_Memory_log b_Memory_log
  rw [runT_eq (by rfl)]
  simp [mf_rows h, bListA_obj h.rows, trunc_fro]
def initT : List (List Val) := [[.int 0], [.non], [.non], [.non], [.non], [.int 7], [.int 8], [.tup [.str 1, .tup []]], [.tup [.str 1, .tup []]], [.non], [.non], [.non], [.non]]
theorem initT_eq : (Me.init 2 2 6).trails = initT := rfl
theorem law_holds (ns : List Int) (hns : ns.length ≤ 63) (G0 : Store) : ∃ G, m_law [.scr (ns.map .int)] G0 = .ok (.bl true) G := by
  unfold m_law
  rw [run_eq (by rfl), tl_eq]
  obtain ⟨tp, et, hT, htl⟩ := s_ltape (G := G0) hns
  have il := s_lay_init (G := G0) (t := 2) (w := 2) (r := 6) (by decide) (by decide) (by decide) (by decide) (by decide) (by decide)
  have hL : LayAt (G0 ++ [.ins 0 [.int 2, .int 2, .int 6]]) G0.length ((2 : Nat) : Int) ((2 : Nat) : Int) ((6 : Nat) : Int) := get_new
  obtain ⟨x, G1, im, hx, xM, xL, _, _, _⟩ := s_mem_init hL (by omega) (by omega) (by decide)
  simp only [List.length_append, List.length_singleton, List.append_assoc, List.cons_append, List.nil_append] at im xM
  have wf0 : (Me.init 2 2 6).Wf := wf_init (by omega)
  generalize hsc : Val.scr (ns.map .int) = sc at et
  generalize hM : G0.length + 1 = M at im xM
  have t0 : ∀ o2 o3 o4 o5, tl0 [some sc, none, o2, o3, o4, o5] G0 = .next [some sc, some (.fro (tp.map .int)), o2, o3, o4, o5] G0 := fun o2 o3 o4 o5 => by
    unfold tl0
    simp [et]
  have t1 : ∀ o3 o4 o5, tl1 [some sc, some (.fro (tp.map .int)), none, o3, o4, o5] G0 = .next [some sc, some (.fro (tp.map .int)), some (.obj M), o3, o4, o5] G1 := fun o3 o4 o5 => by
    unfold tl1
    simp [il, im, hM]
  have t2 : ∀ o4 o5, tl2 [some sc, some (.fro (tp.map .int)), some (.obj M), none, o4, o5] G1 = .next [some sc, some (.fro (tp.map .int)), some (.obj M), some (.obj G1.length), o4, o5] (G1 ++ [.dic [(.inr 17, .int 0)]]) := fun o4 o5 => by
    unfold tl2
    have bd : bDictX false [.fro [.tup [.str 17, .int 0]]] G1 = .ok (.obj G1.length) (G1 ++ [.dic [(.inr 17, .int 0)]]) := by
      unfold bDictX orF1
      rfl
    simp [bd]
  -- the trails
  let G2 : Store := G1 ++ [.dic [(.inr 17, .int 0)]]
  have h2 : MemAt x (Me.init 2 2 6) G2 := hx.app
  have al := lcF_allocV (p := .nm 5) (te := eLst false (aCons (eMeth [(1, m_Memory_peek)] [] (eVar 2) (aCons (eVar 5) aNil)) aNil)) (ρ := wipe1 [some sc, some (.fro (tp.map .int)), some (.obj M), some (.obj G1.length), none, none] [5]) (o := fun v => match v with | .int k => Ob.lst [(Me.init 2 2 6).cur k.toNat] | _ => Ob.lst []) ((List.range' 0 13).map fun (k : Nat) => Val.int (k : Int)) G2 [] (fun v hv J => by
    obtain ⟨k, hk, rfl⟩ := List.mem_map.mp hv
    have hk13 : k < 13 := by simpa using hk
    refine ⟨_, rfl, ?_⟩
    have hJ : MemAt x (Me.init 2 2 6) (G2 ++ J) := h2.app
    have pk := s_peek hJ wf0 (c := k) hk13
    have hmj := hJ.mem
    rw [xM] at pk hmj
    simp [wipe1, methV_1 hmj, pk])
  rw [List.append_nil, List.length_map, List.length_range'] at al
  have ob : ((List.range' 0 13).map fun (k : Nat) => Val.int (k : Int)).map (fun v => match v with | .int k => Ob.lst [(Me.init 2 2 6).cur k.toNat] | _ => Ob.lst []) = initT.map lsO := rfl
  rw [ob] at al
  have l2 : G2.length = G1.length + 1 := by simp [G2]
  rw [l2] at al
  have rg : rng1 [.int 13] = some ((List.range' 0 13).map fun (k : Nat) => Val.int (k : Int)) := rng1_nat (n := 13) (by omega)
  let G3 : Store := G1 ++ ([.dic [(.inr 17, .int 0), (.inr 15, .obj (G1.length + 14))]] ++ initT.map lsO ++ [Ob.lst ((List.range' (G1.length + 1) 13).map Val.obj)])
  have t3 : tl3 [some sc, some (.fro (tp.map .int)), some (.obj M), some (.obj G1.length), none, none] G2 = .next [some sc, some (.fro (tp.map .int)), some (.obj M), some (.obj G1.length), none, none] G3 := by
    have e : eLcFR false rng1 (aCons (eC (.int 13)) aNil) (.nm 5) tTrue (eLst false (aCons (eMeth [(1, m_Memory_peek)] [] (eVar 2) (aCons (eVar 5) aNil)) aNil)) [5] [some sc, some (.fro (tp.map .int)), some (.obj M), some (.obj G1.length), none, none] G2 = .ok (.obj (G1.length + 14)) (G2 ++ initT.map lsO ++ [Ob.lst ((List.range' (G1.length + 1) 13).map Val.obj)]) := by
      unfold eLcFR
      have ha : aCons (eC (.int 13)) aNil [some sc, some (.fro (tp.map .int)), some (.obj M), some (.obj G1.length), none, none] G2 = .ok [.int 13] G2 := rfl
      rw [ha]
      simp only [bind_ok, rg]
      rw [if_pos (small_line (by simp)), al]
      simp only [froR_ok, mkL_f]
      congr 2
      simp [l2, initT]
    have gd : (G2 ++ initT.map lsO ++ [Ob.lst ((List.range' (G1.length + 1) 13).map Val.obj)])[G1.length]? = some (.dic [(.inr 17, .int 0)]) := by simp [G2]
    have p := putA_dicS (s := 15) (w := .obj (G1.length + 14)) gd (by simp)
    have ed : putKy [((.inr 17 : Ky), Val.int 0)] (.inr 15) (.obj (G1.length + 14)) = [(.inr 17, .int 0), (.inr 15, .obj (G1.length + 14))] := rfl
    rw [ed] at p
    have es : (G2 ++ initT.map lsO ++ [Ob.lst ((List.range' (G1.length + 1) 13).map Val.obj)]).set G1.length (.dic [(.inr 17, .int 0), (.inr 15, .obj (G1.length + 14))]) = G3 := by
      simp only [G2, G3, List.append_assoc]
      rw [set_0]
      rfl
    rw [es] at p
    unfold tl3
    rw [v_put, e]
    simp only [toS_ok, e_var, List.getElem?_cons_succ, List.getElem?_cons_zero, e_c, p]
  let J0 : List Ob := initT.map lsO ++ [Ob.lst ((List.range' (G1.length + 1) 13).map Val.obj)]
  let G4 : Store := G1 ++ (wDic (G1.length + 14) (G1.length + 17) 0 :: (J0 ++ [.dic [], .dic [], .lst [.obj (G1.length + 15), .obj (G1.length + 16)]]))
  have lJ : J0.length = 14 := rfl
  have l3 : G3.length = G1.length + 15 := by simp [G3, initT]
  have t4 : tl4 [some sc, some (.fro (tp.map .int)), some (.obj M), some (.obj G1.length), none, none] G3 = .next [some sc, some (.fro (tp.map .int)), some (.obj M), some (.obj G1.length), none, none] G4 := by
    have gd : (G3 ++ [Ob.dic [], Ob.dic [], Ob.lst [.obj G3.length, .obj (G3.length + 1)]])[G1.length]? = some (.dic [(.inr 17, .int 0), (.inr 15, .obj (G1.length + 14))]) := by simp [G3]
    have p := putA_dicS (s := 16) (w := .obj (G3.length + 2)) gd (by simp)
    have ed : putKy [((.inr 17 : Ky), Val.int 0), (.inr 15, .obj (G1.length + 14))] (.inr 16) (.obj (G3.length + 2)) = [(.inr 17, .int 0), (.inr 15, .obj (G1.length + 14)), (.inr 16, .obj (G3.length + 2))] := rfl
    rw [ed] at p
    have es : (G3 ++ [Ob.dic [], Ob.dic [], Ob.lst [.obj G3.length, .obj (G3.length + 1)]]).set G1.length (.dic [(.inr 17, .int 0), (.inr 15, .obj (G1.length + 14)), (.inr 16, .obj (G3.length + 2))]) = G4 := by
      rw [l3]
      simp only [G3, G4, J0, List.append_assoc]
      rw [set_0]
      rfl
    rw [es] at p
    unfold tl4
    simp only [v_put, e_lst, e_aCons, e_aNil, e_dic0, mkD_f, bind_ok, List.length_cons, List.length_nil, List.length_append, List.append_assoc, List.cons_append, List.nil_append, szn, if_true, mkL_f, toS_ok, e_var, List.getElem?_cons_succ, List.getElem?_cons_zero, e_c]
    rw [if_pos (small_line (by decide))]
    simp only [toS_ok, e_var, List.getElem?_cons_succ, List.getElem?_cons_zero, e_c, List.length_append, List.length_cons, List.length_nil, List.append_assoc, List.cons_append, List.nil_append, Nat.zero_add, Nat.reduceAdd]
    simp only [p]
  have g4D : G4[G1.length]? = some (wDic (G1.length + 14) (G1.length + 17) 0) := by simp [G4]
  have h4 : MemAt x (Me.init 2 2 6) G4 := hx.app
  have l4 : G4.length = G1.length + 18 := by simp [G4, lJ]
  have fresh : ∀ j, G1.length ≤ j → j < G1.length + 18 → Ap x G4 j := fun j a b => ap_new hx a (by show j < G4.length; omega)
  have items : Objs lsO G4 (List.range' (G1.length + 1) 13) initT := by
    have := objs_map (e := lsO) initT (G1 ++ [wDic (G1.length + 14) (G1.length + 17) 0]) ([Ob.lst ((List.range' (G1.length + 1) 13).map Val.obj)] ++ [.dic [], .dic [], .lst [.obj (G1.length + 15), .obj (G1.length + 16)]])
    have e1 : G1 ++ [wDic (G1.length + 14) (G1.length + 17) 0] ++ initT.map lsO ++ ([Ob.lst ((List.range' (G1.length + 1) 13).map Val.obj)] ++ [.dic [], .dic [], .lst [.obj (G1.length + 15), .obj (G1.length + 16)]]) = G4 := by simp [G4, J0]
    rw [e1, List.length_append, List.length_singleton] at this
    exact this
  have w4 : W2 x ⟨G1.length, G1.length + 14, G1.length + 17, (List.range' (G1.length + 1) 13).map Val.obj, [G1.length + 15, G1.length + 16]⟩ (Me.init 2 2 6).trails (Me.init 2 2 6).notes (Me.init 2 2 6).count G4 := by
    rw [initT_eq]
    refine ⟨g4D, ?_, rfl, fun i v l h1 h2 => ?_, ?_, ⟨?_, ?_, trivial⟩, ?_, fun j hj => ?_, fun o ho => ?_⟩
    · show G4[G1.length + 14]? = _
      simp [G4, J0, initT]
    · obtain ⟨o, e1, e2⟩ := items.get h2
      rw [List.getElem?_map, e1] at h1
      cases h1
      exact .inr ⟨o, rfl, e2⟩
    · show G4[G1.length + 17]? = _
      simp [G4, J0, initT]
    · show G4[G1.length + 15]? = _
      simp [G4, J0, initT, kvE]
    · show G4[G1.length + 16]? = _
      simp [G4, J0, initT, kvE]
    · show (G1.length :: (G1.length + 14) :: (G1.length + 17) :: [G1.length + 15, G1.length + 16]).Nodup
      simp
    · have hj : j ∈ G1.length :: (G1.length + 14) :: (G1.length + 17) :: [G1.length + 15, G1.length + 16] := hj
      simp only [List.mem_cons, List.not_mem_nil, or_false] at hj
      exact fresh j (by omega) (by omega)
    · obtain ⟨j, hj, e⟩ := List.mem_map.mp (show Val.obj o ∈ (List.range' (G1.length + 1) 13).map Val.obj from ho)
      cases e
      have := List.mem_range'.mp hj
      refine ⟨fresh o (by omega) (by omega), fun z => ?_⟩
      have z : o ∈ G1.length :: (G1.length + 14) :: (G1.length + 17) :: [G1.length + 15, G1.length + 16] := z
      simp only [List.mem_cons, List.not_mem_nil, or_false] at z
      omega
  have pv0 : PV (Me.init 2 2 6) := by
    intro l hl v hv
    rw [initT_eq] at hl
    unfold initT at hl
    simp only [List.mem_cons, List.not_mem_nil, or_false] at hl
    rcases hl with rfl | rfl | rfl | rfl | rfl | rfl | rfl | rfl | rfl | rfl | rfl | rfl | rfl <;> (rw [List.mem_singleton.mp hv]; rfl)
  have j0 : J2 0 M G1.length x ⟨G1.length, G1.length + 14, G1.length + 17, (List.range' (G1.length + 1) 13).map Val.obj, [G1.length + 15, G1.length + 16]⟩ (Me.init 2 2 6) G4 := ⟨h4, wf0, rfl, rfl, rfl, Nat.le_refl _, rfl, pv0, (fun d hd => by
    rw [List.eq_of_mem_replicate (show d ∈ List.replicate 2 ([] : Prs) from hd)]
    intro k a h
    cases h), w4, xM, rfl⟩
  -- how many
  have l0 : ∀ G, m__law_at [.fro (tp.map .int), .int 0] G = .ok (.int (lat tp 0)) G := fun G => s_lat (k := 0)
  have m2 : ∀ (a : Int) (J : Store), fMod (.int a) (.int 2) J = .ok (.int (a % 2)) J := fun a J => fMod_ii (by decide)
  have d3 : ∀ (a : Int) (J : Store), fDiv (.int a) (.int 3) J = .ok (.int (a / 3)) J := fun a J => fDiv_ii (by decide) (by decide)
  obtain ⟨c, hc, ec⟩ : ∃ c : Int, c ≤ 90 ∧ 0 ≤ c ∧ fIx (.fro [.int 30, .int 90]) (.int (lat tp 0 % 2)) G4 = .ok (.int c) G4 := by
    obtain ⟨i, hi, ei⟩ : ∃ i : Nat, i < 2 ∧ lat tp 0 % 2 = (i : Int) := ⟨(lat tp 0 % 2).toNat, by omega, by omega⟩
    rw [ei]
    match i, hi with
    | 0, _ => exact ⟨30, by decide, by decide, fIx_fro (k := 0) rfl⟩
    | 1, _ => exact ⟨90, by decide, by decide, fIx_fro (k := 1) rfl⟩
  obtain ⟨n, hn, en⟩ : ∃ n : Nat, n ≤ 90 ∧ (eCall bMin (aCons (eOp fIx (eLst true (aCons (eC (.int 30)) (aCons (eC (.int 90)) aNil))) (eOp fMod (eCallF m__law_at [] (aCons (eVar 1) (aCons (eC (.int 0)) aNil))) (eC (.int 2)))) (aCons (eCall bMax (aCons (eC (.int 0)) (aCons (eOp fDiv (eOp fSub (eCall bLen (aCons (eVar 1) aNil)) (eC (.int 1))) (eC (.int 3))) aNil))) aNil))) [some sc, some (.fro (tp.map .int)), some (.obj M), some (.obj G1.length), none, none] G4 = .ok (.int (n : Int)) G4 := by
    let z : Int := if ((tp.length : Int) - 1) / 3 > 0 then ((tp.length : Int) - 1) / 3 else 0
    let w : Int := if z < c then z else c
    have z0 : 0 ≤ z := by simp only [z]; split <;> omega
    have w0 : 0 ≤ w ∧ w ≤ 90 := by simp only [w]; split <;> omega
    refine ⟨w.toNat, by omega, ?_⟩
    have ew : ((w.toNat : Nat) : Int) = w := by omega
    rw [ew]
    have ln : bLen [.fro (tp.map .int)] G4 = .ok (.int (tp.length : Int)) G4 := by rw [bLen_fro, List.length_map]
    have mx : bMax [.int 0, .int (((tp.length : Int) - 1) / 3)] G4 = .ok (.int z) G4 := by rw [bMax_ii]
    have mn : bMin [.int c, .int z] G4 = .ok (.int w) G4 := by rw [bMin_ii]
    generalize z = z' at mx mn
    generalize w = w' at mn
    simp [l0, m2, ec.2, ln, d3, mx, mn, -bMax_ii, -bMin_ii]
  obtain ⟨p4, x', y', m', G', lo, j'⟩ := steps2 (sc := sc) (tp := tp) n 0 x _ _ G4 none none j0 (by omega)
  have rn := rng1_nat (n := n) (by omega)
  have lg := s_log j'.at_
  have f17 := j'.ls.f17
  have hm' := j'.at_.mem
  rw [j'.xM] at lg hm'
  rw [j'.yD] at f17
  have ln2 : bLen [.fro m'.rows] G' = .ok (.int (m'.count : Int)) G' := by rw [bLen_fro, j'.rl]
  have eqq : fEqA (.int (m'.count : Int)) (.int (m'.count : Int)) G' = .ok (.bl true) G' := fEqA_self rfl
  have t5 : tl5 [some sc, some (.fro (tp.map .int)), some (.obj M), some (.obj G1.length), none, none] G4 = .next [some sc, some (.fro (tp.map .int)), some (.obj M), some (.obj G1.length), p4, none] G' := by
    unfold tl5
    rw [v_forR, e_aCons, en]
    simp only [bind_ok, e_aNil, toS_ok, rn]
    exact lo
  refine ⟨G', ?_⟩
  show fin (sSeq tl0 _ [some sc, none, none, none, none, none] G0) = _
  rw [seq_next (t0 _ _ _ _), seq_next (t1 _ _ _), seq_next (t2 _ _), seq_next t3, seq_next t4, seq_next t5]
  unfold tl6
  simp [methV_1 hm', lg, ln2, f17, eqq]
theorem mirror_holds : ∀ ns : List Int, ns.length ≤ 63 → ∃ G, m_law [.scr (ns.map .int)] [] = .ok (.bl true) G := fun ns h => law_holds ns h []
end
end Dk

namespace Dk
open PySem PySem.Spec PyProof.Rows L2 R1
def top (i : Nat) : Stmt := PySem.Challenge.pw_driftkept_k02_whole_memory_that_lasts.main.body.getD i (.Pass ⟨0, 0, 0, 0⟩)
def d_Memory_log : He.DefD := ⟨(("Memory" : Str), some ("log" : Str)), ("log" : Str), ("Memory.log" : Str), defArgs (inClass (top 12) 15), defBody (inClass (top 12) 15), defScope (inClass (top 12) 15), [], []⟩
def d_Layout_call_slot : He.DefD := ⟨(("Layout" : Str), some ("call_slot" : Str)), ("call_slot" : Str), ("Layout.call_slot" : Str), defArgs (inClass (top 11) 3), defBody (inClass (top 11) 3), defScope (inClass (top 11) 3), [], []⟩
def d_Layout_record : He.DefD := ⟨(("Layout" : Str), some ("record" : Str)), ("record" : Str), ("Layout.record" : Str), defArgs (inClass (top 11) 5), defBody (inClass (top 11) 5), defScope (inClass (top 11) 5), [], []⟩
def d_Layout_cells : He.DefD := ⟨(("Layout" : Str), some ("cells" : Str)), ("cells" : Str), ("Layout.cells" : Str), defArgs (inClass (top 11) 6), defBody (inClass (top 11) 6), defScope (inClass (top 11) 6), [], []⟩
def d_Layout_is_lasting : He.DefD := ⟨(("Layout" : Str), some ("is_lasting" : Str)), ("is_lasting" : Str), ("Layout.is_lasting" : Str), defArgs (inClass (top 11) 8), defBody (inClass (top 11) 8), defScope (inClass (top 11) 8), [], []⟩
def d_is_within : He.DefD := ⟨(("is_within" : Str), none), ("is_within" : Str), ("is_within" : Str), defArgs (top 10), defBody (top 10), defScope (top 10), [], []⟩
def d_Memory_check_cell : He.DefD := ⟨(("Memory" : Str), some ("check_cell" : Str)), ("check_cell" : Str), ("Memory.check_cell" : Str), defArgs (inClass (top 12) 2), defBody (inClass (top 12) 2), defScope (inClass (top 12) 2), [], []⟩
def d_Memory_check_lasting : He.DefD := ⟨(("Memory" : Str), some ("check_lasting" : Str)), ("check_lasting" : Str), ("Memory.check_lasting" : Str), defArgs (inClass (top 12) 3), defBody (inClass (top 12) 3), defScope (inClass (top 12) 3), [], []⟩
def d_Memory_lasting : He.DefD := ⟨(("Memory" : Str), some ("lasting" : Str)), ("lasting" : Str), ("Memory.lasting" : Str), defArgs (inClass (top 12) 11), defBody (inClass (top 12) 11), defScope (inClass (top 12) 11), [], []⟩
def d_Memory_trail : He.DefD := ⟨(("Memory" : Str), some ("trail" : Str)), ("trail" : Str), ("Memory.trail" : Str), defArgs (inClass (top 12) 12), defBody (inClass (top 12) 12), defScope (inClass (top 12) 12), [], []⟩
def d__law_same : He.DefD := ⟨(("_law_same" : Str), none), ("_law_same" : Str), ("_law_same" : Str), defArgs (top 24), defBody (top 24), defScope (top 24), [], []⟩
def d_Memory_peek : He.DefD := ⟨(("Memory" : Str), some ("peek" : Str)), ("peek" : Str), ("Memory.peek" : Str), defArgs (inClass (top 12) 10), defBody (inClass (top 12) 10), defScope (inClass (top 12) 10), [], []⟩
def d__law_looks : He.DefD := ⟨(("_law_looks" : Str), none), ("_law_looks" : Str), ("_law_looks" : Str), defArgs (top 25), defBody (top 25), defScope (top 25), [], []⟩
def d_Memory_no_notes : He.DefD := ⟨(("Memory" : Str), some ("no_notes" : Str)), ("no_notes" : Str), ("Memory.no_notes" : Str), defArgs (inClass (top 12) 1), defBody (inClass (top 12) 1), defScope (inClass (top 12) 1), [], []⟩
def d_Layout_epoch : He.DefD := ⟨(("Layout" : Str), some ("epoch" : Str)), ("epoch" : Str), ("Layout.epoch" : Str), defArgs (inClass (top 11) 1), defBody (inClass (top 11) 1), defScope (inClass (top 11) 1), [], []⟩
def d_Memory_shorten : He.DefD := ⟨(("Memory" : Str), some ("shorten" : Str)), ("shorten" : Str), ("Memory.shorten" : Str), defArgs (inClass (top 12) 9), defBody (inClass (top 12) 9), defScope (inClass (top 12) 9), [], []⟩
def d_Memory_cut : He.DefD := ⟨(("Memory" : Str), some ("cut" : Str)), ("cut" : Str), ("Memory.cut" : Str), defArgs (inClass (top 12) 14), defBody (inClass (top 12) 14), defScope (inClass (top 12) 14), [], []⟩
def d_Memory_drift : He.DefD := ⟨(("Memory" : Str), some ("drift" : Str)), ("drift" : Str), ("Memory.drift" : Str), defArgs (inClass (top 12) 13), defBody (inClass (top 12) 13), defScope (inClass (top 12) 13), [], []⟩
def d_Memory_give : He.DefD := ⟨(("Memory" : Str), some ("give" : Str)), ("give" : Str), ("Memory.give" : Str), defArgs (inClass (top 12) 7), defBody (inClass (top 12) 7), defScope (inClass (top 12) 7), [], []⟩
def d_Memory_fence : He.DefD := ⟨(("Memory" : Str), some ("fence" : Str)), ("fence" : Str), ("Memory.fence" : Str), defArgs (inClass (top 12) 8), defBody (inClass (top 12) 8), defScope (inClass (top 12) 8), [], []⟩
def d_Memory_result : He.DefD := ⟨(("Memory" : Str), some ("result" : Str)), ("result" : Str), ("Memory.result" : Str), defArgs (inClass (top 12) 6), defBody (inClass (top 12) 6), defScope (inClass (top 12) 6), [], []⟩
def d_Memory_check_request : He.DefD := ⟨(("Memory" : Str), some ("check_request" : Str)), ("check_request" : Str), ("Memory.check_request" : Str), defArgs (inClass (top 12) 4), defBody (inClass (top 12) 4), defScope (inClass (top 12) 4), [], []⟩
def d_Memory_access : He.DefD := ⟨(("Memory" : Str), some ("access" : Str)), ("access" : Str), ("Memory.access" : Str), defArgs (inClass (top 12) 5), defBody (inClass (top 12) 5), defScope (inClass (top 12) 5), [], []⟩
def d__law_do : He.DefD := ⟨(("_law_do" : Str), none), ("_law_do" : Str), ("_law_do" : Str), defArgs (top 17), defBody (top 17), defScope (top 17), [], []⟩
def d__law_give : He.DefD := ⟨(("_law_give" : Str), none), ("_law_give" : Str), ("_law_give" : Str), defArgs (top 19), defBody (top 19), defScope (top 19), [], []⟩
def d__law_shorten : He.DefD := ⟨(("_law_shorten" : Str), none), ("_law_shorten" : Str), ("_law_shorten" : Str), defArgs (top 20), defBody (top 20), defScope (top 20), [], []⟩
def d__law_due : He.DefD := ⟨(("_law_due" : Str), none), ("_law_due" : Str), ("_law_due" : Str), defArgs (top 21), defBody (top 21), defScope (top 21), [], []⟩
def d__law_value : He.DefD := ⟨(("_law_value" : Str), none), ("_law_value" : Str), ("_law_value" : Str), defArgs (top 16), defBody (top 16), defScope (top 16), [], []⟩
def d__law_request : He.DefD := ⟨(("_law_request" : Str), none), ("_law_request" : Str), ("_law_request" : Str), defArgs (top 23), defBody (top 23), defScope (top 23), [], []⟩
def d__law_cut : He.DefD := ⟨(("_law_cut" : Str), none), ("_law_cut" : Str), ("_law_cut" : Str), defArgs (top 22), defBody (top 22), defScope (top 22), [], []⟩
def d__law_wrong : He.DefD := ⟨(("_law_wrong" : Str), none), ("_law_wrong" : Str), ("_law_wrong" : Str), defArgs (top 18), defBody (top 18), defScope (top 18), [], []⟩
def d__law_step : He.DefD := ⟨(("_law_step" : Str), none), ("_law_step" : Str), ("_law_step" : Str), defArgs (top 26), defBody (top 26), defScope (top 26), [], []⟩
def d__law_at : He.DefD := ⟨(("_law_at" : Str), none), ("_law_at" : Str), ("_law_at" : Str), defArgs (top 15), defBody (top 15), defScope (top 15), [], []⟩
def d_Layout_word : He.DefD := ⟨(("Layout" : Str), some ("word" : Str)), ("word" : Str), ("Layout.word" : Str), defArgs (inClass (top 11) 4), defBody (inClass (top 11) 4), defScope (inClass (top 11) 4), [], []⟩
def d_Memory_init : He.DefD := ⟨(("Memory" : Str), some ("__init__" : Str)), ("__init__" : Str), ("Memory.__init__" : Str), defArgs (inClass (top 12) 0), defBody (inClass (top 12) 0), defScope (inClass (top 12) 0), [], []⟩
def d_Layout_init : He.DefD := ⟨(("Layout" : Str), some ("__init__" : Str)), ("__init__" : Str), ("Layout.__init__" : Str), defArgs (inClass (top 11) 0), defBody (inClass (top 11) 0), defScope (inClass (top 11) 0), [], []⟩
def d__law_tape : He.DefD := ⟨(("_law_tape" : Str), none), ("_law_tape" : Str), ("_law_tape" : Str), defArgs (top 14), defBody (top 14), defScope (top 14), [], []⟩
def d_law : He.DefD := ⟨(("law" : Str), none), ("law" : Str), ("law" : Str), defArgs (top 27), defBody (top 27), defScope (top 27), [], []⟩
def fn0 : List He.DefD := [d_Memory_log, d_Layout_call_slot, d_Layout_record, d_Layout_cells, d_Layout_is_lasting, d_is_within, d_Memory_check_cell, d_Memory_check_lasting, d_Memory_lasting, d_Memory_trail, d__law_same, d_Memory_peek, d__law_looks, d_Memory_no_notes, d_Layout_epoch, d_Memory_shorten, d_Memory_cut, d_Memory_drift, d_Memory_give, d_Memory_fence, d_Memory_result, d_Memory_check_request, d_Memory_access, d__law_do, d__law_give, d__law_shorten, d__law_due, d__law_value, d__law_request, d__law_cut, d__law_wrong, d__law_step, d__law_at, d_Layout_word, d_Memory_init]
def fn1 : List He.DefD := [d_Layout_init, d__law_tape, d_law]
def fn : List He.DefD := fn0 ++ fn1
def fa0 : List He.Fa := [.free ("list" : Str), .cls ("Memory" : Str), .noat ("Memory" : Str) ("layout" : Str), .noat ("Memory" : Str) ("count" : Str), .noat ("Memory" : Str) ("rows" : Str), .noat ("Memory" : Str) ("trails" : Str), .noat ("Memory" : Str) ("notes" : Str), .meth ("Memory" : Str) ("log" : Str), .free ("len" : Str), .cls ("Layout" : Str), .noat ("Layout" : Str) ("threads" : Str), .noat ("Layout" : Str) ("words" : Str), .noat ("Layout" : Str) ("records" : Str), .meth ("Layout" : Str) ("call_slot" : Str), .meth ("Layout" : Str) ("record" : Str), .meth ("Layout" : Str) ("cells" : Str), .meth ("Layout" : Str) ("is_lasting" : Str), .free ("isinstance" : Str), .free ("bool" : Str), .free ("int" : Str), .glo ("is_within" : Str), .meth ("Memory" : Str) ("check_cell" : Str), .meth ("Memory" : Str) ("check_lasting" : Str), .meth ("Memory" : Str) ("lasting" : Str), .meth ("Memory" : Str) ("trail" : Str), .glo ("_law_same" : Str), .meth ("Memory" : Str) ("peek" : Str), .free ("range" : Str), .glo ("_law_looks" : Str), .free ("tuple" : Str), .glo ("NotValid" : Str), .meth ("Memory" : Str) ("no_notes" : Str), .meth ("Layout" : Str) ("epoch" : Str), .free ("max" : Str), .free ("min" : Str)]
def fa1 : List He.Fa := [.meth ("Memory" : Str) ("shorten" : Str), .exc ("NotValid" : Str), .meth ("Memory" : Str) ("cut" : Str), .meth ("Memory" : Str) ("drift" : Str), .meth ("Memory" : Str) ("give" : Str), .free ("sorted" : Str), .meth ("Memory" : Str) ("fence" : Str), .meth ("Memory" : Str) ("result" : Str), .glo ("LENGTHS" : Str), .meth ("Memory" : Str) ("check_request" : Str), .meth ("Memory" : Str) ("access" : Str), .exm ("NotValid" : Str) ("LineError" : Str) true, .glo ("LineError" : Str), .glo ("_law_do" : Str), .glo ("_law_give" : Str), .glo ("_law_shorten" : Str), .free ("dict" : Str), .glo ("_law_due" : Str), .glo ("_law_value" : Str), .glo ("_law_request" : Str), .glo ("_law_cut" : Str), .glo ("_law_wrong" : Str), .glo ("_law_step" : Str), .glo ("_law_at" : Str), .meth ("Layout" : Str) ("word" : Str), .mkr ("Memory" : Str), .glo ("Memory" : Str), .int ("MOST_RECORDS" : Str) (200), .int ("LEAST_RECORDS" : Str) (4), .int ("MOST_WORDS" : Str) (4), .int ("MOST_THREADS" : Str) (3), .mkr ("Layout" : Str), .glo ("Layout" : Str), .free ("abs" : Str), .glo ("_law_tape" : Str)]
def fa2 : List He.Fa := [.glo ("law" : Str)]
def fa : List He.Fa := fa0 ++ fa1 ++ fa2
def fx : List (PySem.W.Frag → Bool) := [R1.excF "NotValid", R1.dctF "LENGTHS" [(2, (.int (2))), (3, (.int (3))), (4, (.int (4))), (5, (.int (3))), (6, (.int (2))), (7, (.int (1)))] 64]
def ts : List He.Tab := [(fun K => He.ga K "LENGTHS", ["read", "write", "swap", "decide", "flush", "fence"])]
def loose0 : List Str := ["_wall", "__name__", "LineError", "NotValid", "LENGTHS", "MOST_THREADS", "MOST_WORDS", "LEAST_RECORDS", "MOST_RECORDS", "is_within", "Layout", "Memory", "_law_tape", "_law_at", "_law_value", "_law_do", "_law_wrong", "_law_give", "_law_shorten", "_law_due"]
def loose1 : List Str := ["_law_cut", "_law_request", "_law_same", "_law_looks", "_law_step"]
def loose : List Str := loose0 ++ loose1
abbrev R : PySem.W.OpenRow := PySem.W.OpenLaw.row PySem.Challenge.rw_driftkept_k02_whole_memory_that_lasts
abbrev hk : PySem.W.Hook := R1.hookX 6 fa fn fx ts
def ob (s : PySem.W.SharedT) : Bool × He.AlT := R1.obsXG 6 fa fn fx ts (HandSHeadRun.getT s)
theorem ob_eq (s : PySem.W.SharedT) : ob s = hk.obs s.abs := R1.obsXG_eq (HandSHeadRun.getT_eq s)
section
variable {P : Program} {w : World} {K : PySem.W.Frag} {mg : Str → Option Value} {base : Heap}
theorem sc_Memory_log : FnScope ["self"] ["self"] (defScope (inClass (top 12) 15)) := ⟨rfl, rfl, rfl, by decide +kernel, rfl, by decide +kernel, by decide +kernel⟩
theorem bo_Memory_log (T : Txt fa fn fx ts w K mg) (f : Addr) : Body0 P w K mg base ["self"] "Memory.log" (defBody (inClass (top 12) 15)) (defScope (inClass (top 12) 15)) f 0 b_Memory_log := fun cdv A outer s H E hr => (rs_one (rs_ret (re_callTy (CallR.or1 call_list_of (call_listD rfl)) (s_list.or s_listD) (by rfl) (T.free 0) (by decide +kernel) (ra_cons (re_fld (rv 0) (plOk_by (by decide +kernel))) ra_nil))))
theorem g_Memory_log (T : Txt fa fn fx ts w K mg) : MF P w K mg base CX0 1 1 "log" 1 m_Memory_log [] :=
  mf0 (mm := m_Memory_log) (by exact Wk.trunc) (params := defArgs (inClass (top 12) 15)) (body := defBody (inClass (top 12) 15)) (scope := defScope (inClass (top 12) 15)) (m := "log") (q := "Memory.log") T 0 7 1 1 sc_Memory_log (b := b_Memory_log) (bo_Memory_log T) (fun _ _ _ _ _ _ us hl => match us, hl with | [_], _ => rfl)
theorem sc_Layout_call_slot : FnScope ["self", "thread"] ["self", "thread"] (defScope (inClass (top 11) 3)) := ⟨rfl, rfl, rfl, by decide +kernel, rfl, by decide +kernel, by decide +kernel⟩
theorem bo_Layout_call_slot (T : Txt fa fn fx ts w K mg) (f : Addr) : Body0 P w K mg base ["self", "thread"] "Layout.call_slot" (defBody (inClass (top 11) 3)) (defScope (inClass (top 11) 3)) f 0 b_Layout_call_slot := fun cdv A outer s H E hr => (rs_one (rs_ret (re_add (re_add re_int (re_fld (rv 0) (plOk_by (by decide +kernel)))) (rv 1))))
theorem g_Layout_call_slot (T : Txt fa fn fx ts w K mg) : MF P w K mg base CX0 1 0 "call_slot" 2 m_Layout_call_slot [] :=
  mf0 (mm := m_Layout_call_slot) (by exact Wk.trunc) (params := defArgs (inClass (top 11) 3)) (body := defBody (inClass (top 11) 3)) (scope := defScope (inClass (top 11) 3)) (m := "call_slot") (q := "Layout.call_slot") T 1 13 9 0 sc_Layout_call_slot (b := b_Layout_call_slot) (bo_Layout_call_slot T) (fun _ _ _ _ _ _ us hl => match us, hl with | [_, _], _ => rfl)
theorem sc_Layout_record : FnScope ["self", "index"] ["self", "index"] (defScope (inClass (top 11) 5)) := ⟨rfl, rfl, rfl, by decide +kernel, rfl, by decide +kernel, by decide +kernel⟩
theorem bo_Layout_record (T : Txt fa fn fx ts w K mg) (f : Addr) : Body0 P w K mg base ["self", "index"] "Layout.record" (defBody (inClass (top 11) 5)) (defScope (inClass (top 11) 5)) f 0 b_Layout_record := fun cdv A outer s H E hr => (rs_one (rs_ret (re_add (re_add (re_add re_int (re_mul re_int (re_fld (rv 0) (plOk_by (by decide +kernel))))) (re_fld (rv 0) (plOk_by (by decide +kernel)))) (rv 1))))
theorem g_Layout_record (T : Txt fa fn fx ts w K mg) : MF P w K mg base CX0 1 0 "record" 2 m_Layout_record [] :=
  mf0 (mm := m_Layout_record) (by exact Wk.trunc) (params := defArgs (inClass (top 11) 5)) (body := defBody (inClass (top 11) 5)) (scope := defScope (inClass (top 11) 5)) (m := "record") (q := "Layout.record") T 2 14 9 0 sc_Layout_record (b := b_Layout_record) (bo_Layout_record T) (fun _ _ _ _ _ _ us hl => match us, hl with | [_, _], _ => rfl)
theorem sc_Layout_cells : FnScope ["self"] ["self"] (defScope (inClass (top 11) 6)) := ⟨rfl, rfl, rfl, by decide +kernel, rfl, by decide +kernel, by decide +kernel⟩
theorem bo_Layout_cells (T : Txt fa fn fx ts w K mg) (f : Addr) : Body0 P w K mg base ["self"] "Layout.cells" (defBody (inClass (top 11) 6)) (defScope (inClass (top 11) 6)) f 1 b_Layout_cells := fun cdv A outer s H E hr => (rs_one (rs_ret (re_meth (rv 0) (g_Layout_record T) runDefT_ar (hr.mono (by decide)) passE (ra_cons (re_fld (rv 0) (plOk_by (by decide +kernel))) ra_nil))))
theorem g_Layout_cells (T : Txt fa fn fx ts w K mg) : MF P w K mg base CX0 2 0 "cells" 1 m_Layout_cells [] :=
  mf0 (mm := m_Layout_cells) (by exact Wk.trunc) (params := defArgs (inClass (top 11) 6)) (body := defBody (inClass (top 11) 6)) (scope := defScope (inClass (top 11) 6)) (m := "cells") (q := "Layout.cells") T 3 15 9 0 sc_Layout_cells (b := b_Layout_cells) (bo_Layout_cells T) (fun _ _ _ _ _ _ us hl => match us, hl with | [_], _ => rfl)
theorem sc_Layout_is_lasting : FnScope ["self", "cell"] ["self", "cell"] (defScope (inClass (top 11) 8)) := ⟨rfl, rfl, rfl, by decide +kernel, rfl, by decide +kernel, by decide +kernel⟩
theorem bo_Layout_is_lasting (T : Txt fa fn fx ts w K mg) (f : Addr) : Body0 P w K mg base ["self", "cell"] "Layout.is_lasting" (defBody (inClass (top 11) 8)) (defScope (inClass (top 11) 8)) f 2 b_Layout_is_lasting := fun cdv A outer s H E hr => (rs_one (rs_ret (re_chain op_le op_lt s_le s_lt (re_meth (rv 0) (g_Layout_call_slot T) runDefT_ar (hr.mono (by decide)) passE (ra_cons re_int ra_nil)) (rv 1) (re_meth0 (rv 0) (g_Layout_cells T) runDefT_ar (hr.mono (by decide)) passE))))
theorem g_Layout_is_lasting (T : Txt fa fn fx ts w K mg) : MF P w K mg base CX0 3 0 "is_lasting" 2 m_Layout_is_lasting [] :=
  mf0 (mm := m_Layout_is_lasting) (by exact Wk.trunc) (params := defArgs (inClass (top 11) 8)) (body := defBody (inClass (top 11) 8)) (scope := defScope (inClass (top 11) 8)) (m := "is_lasting") (q := "Layout.is_lasting") T 4 16 9 0 sc_Layout_is_lasting (b := b_Layout_is_lasting) (bo_Layout_is_lasting T) (fun _ _ _ _ _ _ us hl => match us, hl with | [_, _], _ => rfl)
theorem sc_is_within : FnScope ["value", "low", "high"] ["value", "low", "high"] (defScope (top 10)) := ⟨rfl, rfl, rfl, by decide +kernel, rfl, by decide +kernel, by decide +kernel⟩
theorem bo_is_within (T : Txt fa fn fx ts w K mg) (f : Addr) : Body0 P w K mg base ["value", "low", "high"] "is_within" (defBody (top 10)) (defScope (top 10)) f 0 b_is_within := fun cdv A outer s H E hr => (rs_one (rs_ret (re_and (re_isi (T := "int") (by decide) rfl (T.free 17) (pty T 19 (by decide +kernel)) (rv 0)) (re_and (re_not (re_isi (T := "bool") (by decide) rfl (T.free 17) (pty T 18 (by decide +kernel)) (rv 0))) (re_one (re_chain op_le op_le s_le s_le (rv 1) (rv 0) (rv 2)))))))
theorem g_is_within (T : Txt fa fn fx ts w K mg) : GF P w K mg base CX0 1 "is_within" 3 m_is_within [] :=
  gf0 (mm := m_is_within) (by exact Wk.trunc) (params := defArgs (top 10)) (body := defBody (top 10)) (scope := defScope (top 10)) (x := "is_within") T 5 20 sc_is_within (b := b_is_within) (bo_is_within T) (fun _ _ _ _ _ _ us hl => match us, hl with | [_, _, _], _ => rfl)
theorem sc_Memory_check_cell : FnScope ["self", "cell"] ["self", "cell"] (defScope (inClass (top 12) 2)) := ⟨rfl, rfl, rfl, by decide +kernel, rfl, by decide +kernel, by decide +kernel⟩
theorem bo_Memory_check_cell (T : Txt fa fn fx ts w K mg) (f : Addr) : Body0 P w K mg base ["self", "cell"] "Memory.check_cell" (defBody (inClass (top 12) 2)) (defScope (inClass (top 12) 2)) f 1 b_Memory_check_cell := fun cdv A outer s H E hr => (rs_one (rs_if (rt_not (rt_truth (re_call (g_is_within T) runDefT_ar (hr.mono (by decide)) (by rfl) passE (ra_cons (rv 1) (ra_cons re_int (ra_cons (re_sub (re_callB call_len s_len (by rfl) (T.free 8) (by decide +kernel) (ra_cons (re_fld (rv 0) (plOk_by (by decide +kernel))) ra_nil)) re_int) ra_nil)))))) (rs_one rs_never) rs_nil))
theorem g_Memory_check_cell (T : Txt fa fn fx ts w K mg) : MF P w K mg base CX0 2 1 "check_cell" 2 m_Memory_check_cell [] :=
  mf0 (mm := m_Memory_check_cell) (by exact Wk.refl) (params := defArgs (inClass (top 12) 2)) (body := defBody (inClass (top 12) 2)) (scope := defScope (inClass (top 12) 2)) (m := "check_cell") (q := "Memory.check_cell") T 6 21 1 1 sc_Memory_check_cell (b := b_Memory_check_cell) (bo_Memory_check_cell T) (fun _ _ _ _ _ _ us hl => match us, hl with | [_, _], _ => rfl)
theorem sc_Memory_check_lasting : FnScope ["self", "cell"] ["self", "cell"] (defScope (inClass (top 12) 3)) := ⟨rfl, rfl, rfl, by decide +kernel, rfl, by decide +kernel, by decide +kernel⟩
theorem bo_Memory_check_lasting (T : Txt fa fn fx ts w K mg) (f : Addr) : Body0 P w K mg base ["self", "cell"] "Memory.check_lasting" (defBody (inClass (top 12) 3)) (defScope (inClass (top 12) 3)) f 3 b_Memory_check_lasting := fun cdv A outer s H E hr => (rs_cons (rs_ex (re_meth (rv 0) (g_Memory_check_cell T) runDef_ar (hr.mono (by decide)) passE (ra_cons (rv 1) ra_nil)))
  (rs_one (rs_if (rt_not (rt_truth (re_meth (re_fld (rv 0) (plOk_by (by decide +kernel))) (g_Layout_is_lasting T) runDefT_ar (hr.mono (by decide)) passE (ra_cons (rv 1) ra_nil)))) (rs_one rs_never) rs_nil)))
theorem g_Memory_check_lasting (T : Txt fa fn fx ts w K mg) : MF P w K mg base CX0 4 1 "check_lasting" 2 m_Memory_check_lasting [] :=
  mf0 (mm := m_Memory_check_lasting) (by exact Wk.refl) (params := defArgs (inClass (top 12) 3)) (body := defBody (inClass (top 12) 3)) (scope := defScope (inClass (top 12) 3)) (m := "check_lasting") (q := "Memory.check_lasting") T 7 22 1 1 sc_Memory_check_lasting (b := b_Memory_check_lasting) (bo_Memory_check_lasting T) (fun _ _ _ _ _ _ us hl => match us, hl with | [_, _], _ => rfl)
theorem sc_Memory_lasting : FnScope ["self", "cell"] ["self", "cell"] (defScope (inClass (top 12) 11)) := ⟨rfl, rfl, rfl, by decide +kernel, rfl, by decide +kernel, by decide +kernel⟩
theorem bo_Memory_lasting (T : Txt fa fn fx ts w K mg) (f : Addr) : Body0 P w K mg base ["self", "cell"] "Memory.lasting" (defBody (inClass (top 12) 11)) (defScope (inClass (top 12) 11)) f 4 b_Memory_lasting := fun cdv A outer s H E hr => (rs_cons (rs_ex (re_meth (rv 0) (g_Memory_check_lasting T) runDef_ar (hr.mono (by decide)) passE (ra_cons (rv 1) ra_nil)))
  (rs_one (rs_ret (re_ixA hr.units (re_ixA hr.units (re_fld (rv 0) (plOk_by (by decide +kernel))) (rv 1)) re_int))))
theorem g_Memory_lasting (T : Txt fa fn fx ts w K mg) : MF P w K mg base CX0 5 1 "lasting" 2 m_Memory_lasting [] :=
  mf0 (mm := m_Memory_lasting) (by exact Wk.refl) (params := defArgs (inClass (top 12) 11)) (body := defBody (inClass (top 12) 11)) (scope := defScope (inClass (top 12) 11)) (m := "lasting") (q := "Memory.lasting") T 8 23 1 1 sc_Memory_lasting (b := b_Memory_lasting) (bo_Memory_lasting T) (fun _ _ _ _ _ _ us hl => match us, hl with | [_, _], _ => rfl)
theorem sc_Memory_trail : FnScope ["self", "cell"] ["self", "cell"] (defScope (inClass (top 12) 12)) := ⟨rfl, rfl, rfl, by decide +kernel, rfl, by decide +kernel, by decide +kernel⟩
theorem bo_Memory_trail (T : Txt fa fn fx ts w K mg) (f : Addr) : Body0 P w K mg base ["self", "cell"] "Memory.trail" (defBody (inClass (top 12) 12)) (defScope (inClass (top 12) 12)) f 4 b_Memory_trail := fun cdv A outer s H E hr => (rs_cons (rs_ex (re_meth (rv 0) (g_Memory_check_lasting T) runDef_ar (hr.mono (by decide)) passE (ra_cons (rv 1) ra_nil)))
  (rs_one (rs_ret (re_callTy (CallR.or1 call_list_of (call_listD rfl)) (s_list.or s_listD) (by rfl) (T.free 0) (by decide +kernel) (ra_cons (re_ixA hr.units (re_fld (rv 0) (plOk_by (by decide +kernel))) (rv 1)) ra_nil)))))
theorem g_Memory_trail (T : Txt fa fn fx ts w K mg) : MF P w K mg base CX0 5 1 "trail" 2 m_Memory_trail [] :=
  mf0 (mm := m_Memory_trail) (by exact Wk.refl) (params := defArgs (inClass (top 12) 12)) (body := defBody (inClass (top 12) 12)) (scope := defScope (inClass (top 12) 12)) (m := "trail") (q := "Memory.trail") T 9 24 1 1 sc_Memory_trail (b := b_Memory_trail) (bo_Memory_trail T) (fun _ _ _ _ _ _ us hl => match us, hl with | [_, _], _ => rfl)
theorem sc__law_same : FnScope ["_law_told", "_law_due_here"] ["_law_told", "_law_due_here"] (defScope (top 24)) := ⟨rfl, rfl, rfl, by decide +kernel, rfl, by decide +kernel, by decide +kernel⟩
theorem bo__law_same (T : Txt fa fn fx ts w K mg) (f : Addr) : Body0 P w K mg base ["_law_told", "_law_due_here"] "_law_same" (defBody (top 24)) (defScope (top 24)) f 0 b__law_same := fun cdv A outer s H E hr => (rs_one (rs_ret (re_and (re_eqA hr.units (re_isi (T := "bool") (by decide) rfl (T.free 17) (pty T 18 (by decide +kernel)) (rv 0)) (re_isi (T := "bool") (by decide) rfl (T.free 17) (pty T 18 (by decide +kernel)) (rv 1))) (re_one (re_eqA hr.units (rv 0) (rv 1))))))
theorem g__law_same (T : Txt fa fn fx ts w K mg) : GF P w K mg base CX0 1 "_law_same" 2 m__law_same [] :=
  gf0 (mm := m__law_same) (by exact Wk.trunc) (params := defArgs (top 24)) (body := defBody (top 24)) (scope := defScope (top 24)) (x := "_law_same") T 10 25 sc__law_same (b := b__law_same) (bo__law_same T) (fun _ _ _ _ _ _ us hl => match us, hl with | [_, _], _ => rfl)
theorem sc_Memory_peek : FnScope ["self", "cell"] ["self", "cell"] (defScope (inClass (top 12) 10)) := ⟨rfl, rfl, rfl, by decide +kernel, rfl, by decide +kernel, by decide +kernel⟩
theorem bo_Memory_peek (T : Txt fa fn fx ts w K mg) (f : Addr) : Body0 P w K mg base ["self", "cell"] "Memory.peek" (defBody (inClass (top 12) 10)) (defScope (inClass (top 12) 10)) f 2 b_Memory_peek := fun cdv A outer s H E hr => (rs_cons (rs_ex (re_meth (rv 0) (g_Memory_check_cell T) runDef_ar (hr.mono (by decide)) passE (ra_cons (rv 1) ra_nil)))
  (rs_one (rs_ret (re_ixA hr.units (re_ixA hr.units (re_fld (rv 0) (plOk_by (by decide +kernel))) (rv 1)) (re_neg re_int)))))
theorem g_Memory_peek (T : Txt fa fn fx ts w K mg) : MF P w K mg base CX0 3 1 "peek" 2 m_Memory_peek [] :=
  mf0 (mm := m_Memory_peek) (by exact Wk.refl) (params := defArgs (inClass (top 12) 10)) (body := defBody (inClass (top 12) 10)) (scope := defScope (inClass (top 12) 10)) (m := "peek") (q := "Memory.peek") T 11 26 1 1 sc_Memory_peek (b := b_Memory_peek) (bo_Memory_peek T) (fun _ _ _ _ _ _ us hl => match us, hl with | [_, _], _ => rfl)
theorem sc__law_looks : FnScope ["_law_memory", "_law_w", "_law_cell"] ["_law_memory", "_law_w"] (defScope (top 25)) := ⟨rfl, rfl, rfl, by decide +kernel, rfl, by decide +kernel, by decide +kernel⟩
theorem bo__law_looks (T : Txt fa fn fx ts w K mg) (f : Addr) : Body0 P w K mg base ["_law_memory", "_law_w", "_law_cell"] "_law_looks" (defBody (top 25)) (defScope (top 25)) f 5 b__law_looks := fun cdv A outer s H E hr => (rs_cons (rs_forR1 PassesOwn.never rfl rfl (T.free 27) (ra_cons re_int ra_nil) (rgn 2 sc__law_looks.nd) (rs_cons (rs_if (rt_not (rt_truth (re_call (g__law_same T) runDefT_ar (hr.mono (by decide)) (by rfl) passE (ra_cons (re_meth (rv 0) (g_Memory_peek T) runDef_ar (hr.mono (by decide)) passE (ra_cons (rv 2) ra_nil)) (ra_cons (re_ixA hr.units (re_ixA hr.units (re_ixA hr.units (rv 1) (re_str (k := 15))) (rv 2)) (re_neg re_int)) ra_nil))))) (rs_one (rs_ret re_bl)) rs_nil)
  (rs_one (rs_if (rt_bool (rw_and (rt_ge (rv 2) re_int) (rw_and1 (rt_bool (rw_or (rt_neA hr.units (re_meth (rv 0) (g_Memory_trail T) runDef_ar (hr.mono (by decide)) passE (ra_cons (rv 2) ra_nil)) (re_ixA hr.units (re_ixA hr.units (rv 1) (re_str (k := 15))) (rv 2))) (rw_or1 (rt_neA hr.units (re_meth (rv 0) (g_Memory_lasting T) runDef_ar (hr.mono (by decide)) passE (ra_cons (rv 2) ra_nil)) (re_ixA hr.units (re_ixA hr.units (re_ixA hr.units (rv 1) (re_str (k := 15))) (rv 2)) re_int)))))))) (rs_one (rs_ret re_bl)) rs_nil))))
  (rs_one (rs_ret (re_eqA hr.units (re_fld (rv 0) (plOk_by (by decide +kernel))) (re_ixA hr.units (rv 1) (re_str (k := 17)))))))
theorem g__law_looks (T : Txt fa fn fx ts w K mg) : GF P w K mg base CX0 6 "_law_looks" 2 m__law_looks [] :=
  gf0 (mm := m__law_looks) (by exact Wk.refl) (params := defArgs (top 25)) (body := defBody (top 25)) (scope := defScope (top 25)) (x := "_law_looks") T 12 28 sc__law_looks (b := b__law_looks) (bo__law_looks T) (fun _ _ _ _ _ _ us hl => match us, hl with | [_, _], _ => rfl)
theorem sc_Memory_no_notes : FnScope ["self", "_"] ["self"] (defScope (inClass (top 12) 1)) := ⟨rfl, rfl, rfl, by decide +kernel, rfl, by decide +kernel, by decide +kernel⟩
theorem bo_Memory_no_notes (T : Txt fa fn fx ts w K mg) (f : Addr) : Body0 P w K mg base ["self", "_"] "Memory.no_notes" (defBody (inClass (top 12) 1)) (defScope (inClass (top 12) 1)) f 0 b_Memory_no_notes := fun cdv A outer s H E hr => (rs_one (rs_ret (re_lcFR1 (by rfl) sc_Memory_no_notes.nd (by rfl) (by exact T.free 27) (ra_cons (re_fld (re_fld (rv 0) (plOk_by (by decide +kernel))) (plOk_by (by decide +kernel))) ra_nil) (blkOk_by (own := [("_", 1)]) (by show blkC ["self", "_"] (defScope (inClass (top 12) 1)) _ _ = true; decide +kernel)) (by decide) (fun _ _ _ _ _ => (rgn 1 sc_Memory_no_notes.nd)) (fun _ _ _ _ _ => rts_nil) (fun _ _ _ _ _ => re_dic0))))
theorem g_Memory_no_notes (T : Txt fa fn fx ts w K mg) : MF P w K mg base CX0 1 1 "no_notes" 1 m_Memory_no_notes [] :=
  mf0 (mm := m_Memory_no_notes) (by exact Wk.refl) (params := defArgs (inClass (top 12) 1)) (body := defBody (inClass (top 12) 1)) (scope := defScope (inClass (top 12) 1)) (m := "no_notes") (q := "Memory.no_notes") T 13 31 1 1 sc_Memory_no_notes (b := b_Memory_no_notes) (bo_Memory_no_notes T) (fun _ _ _ _ _ _ us hl => match us, hl with | [_], _ => rfl)
theorem sc_Layout_epoch : FnScope ["self"] ["self"] (defScope (inClass (top 11) 1)) := ⟨rfl, rfl, rfl, by decide +kernel, rfl, by decide +kernel, by decide +kernel⟩
theorem bo_Layout_epoch (T : Txt fa fn fx ts w K mg) (f : Addr) : Body0 P w K mg base ["self"] "Layout.epoch" (defBody (inClass (top 11) 1)) (defScope (inClass (top 11) 1)) f 0 b_Layout_epoch := fun cdv A outer s H E hr => (rs_one (rs_ret re_int))
theorem g_Layout_epoch (T : Txt fa fn fx ts w K mg) : MF P w K mg base CX0 1 0 "epoch" 1 m_Layout_epoch [] :=
  mf0 (mm := m_Layout_epoch) (by exact Wk.trunc) (params := defArgs (inClass (top 11) 1)) (body := defBody (inClass (top 11) 1)) (scope := defScope (inClass (top 11) 1)) (m := "epoch") (q := "Layout.epoch") T 14 32 9 0 sc_Layout_epoch (b := b_Layout_epoch) (bo_Layout_epoch T) (fun _ _ _ _ _ _ us hl => match us, hl with | [_], _ => rfl)
theorem sc_Memory_shorten : FnScope ["self", "cell", "steps", "places"] ["self", "cell", "steps"] (defScope (inClass (top 12) 9)) := ⟨rfl, rfl, rfl, by decide +kernel, rfl, by decide +kernel, by decide +kernel⟩
theorem bo_Memory_shorten (T : Txt fa fn fx ts w K mg) (f : Addr) : Body0 P w K mg base ["self", "cell", "steps", "places"] "Memory.shorten" (defBody (inClass (top 12) 9)) (defScope (inClass (top 12) 9)) f 0 b_Memory_shorten := fun cdv A outer s H E hr => (rs_cons (rst 2 sc_Memory_shorten.nd (re_callB (call_max2 rfl) s_max (by rfl) (T.free 33) (by decide +kernel) (ra_cons re_int (ra_cons (re_callB (call_min2 rfl) s_min (by rfl) (T.free 34) (by decide +kernel) (ra_cons (rv 2) (ra_cons (re_sub (re_callB call_len s_len (by rfl) (T.free 8) (by decide +kernel) (ra_cons (re_ixA hr.units (re_fld (rv 0) (plOk_by (by decide +kernel))) (rv 1)) ra_nil)) re_int) ra_nil))) ra_nil))))
  (rs_cons (rs_put hr.units (re_fld (rv 0) (plOk_by (by decide +kernel))) (rv 1) (re_sl (re_ixA hr.units (re_fld (rv 0) (plOk_by (by decide +kernel))) (rv 1)) (ro_some (rv 2)) ro_none))
  (rs_one (rs_forA PassesOwn.never rfl (re_fld (rv 0) (plOk_by (by decide +kernel))) (rgn 3 sc_Memory_shorten.nd) (rs_one (rs_if (rt_inA hr.units (rv 1) (rv 3)) (rs_one (rs_put hr.units (rv 3) (rv 1) (re_callB (call_max2 rfl) s_max (by rfl) (T.free 33) (by decide +kernel) (ra_cons re_int (ra_cons (re_sub (re_ixA hr.units (rv 3) (rv 1)) (rv 2)) ra_nil))))) rs_nil))))))
theorem g_Memory_shorten (T : Txt fa fn fx ts w K mg) : MF P w K mg base CX0 1 1 "shorten" 3 m_Memory_shorten [] :=
  mf0 (mm := m_Memory_shorten) (by exact Wk.refl) (params := defArgs (inClass (top 12) 9)) (body := defBody (inClass (top 12) 9)) (scope := defScope (inClass (top 12) 9)) (m := "shorten") (q := "Memory.shorten") T 15 35 1 1 sc_Memory_shorten (b := b_Memory_shorten) (bo_Memory_shorten T) (fun _ _ _ _ _ _ us hl => match us, hl with | [_, _, _], _ => rfl)
theorem sc_Memory_cut : FnScope ["self", "choices", "choice", "first", "cell"] ["self", "choices"] (defScope (inClass (top 12) 14)) := ⟨rfl, rfl, rfl, by decide +kernel, rfl, by decide +kernel, by decide +kernel⟩
theorem bo_Memory_cut_R (T : Txt fa fn fx ts w K mg) (f : Addr) : BodyX P w K mg base ["self", "choices", "choice", "first", "cell"] "Memory.cut" (defBody (inClass (top 12) 14)) (defScope (inClass (top 12) 14)) f 2 b_Memory_cut_R := fun cdv A outer s H E hr po tk hx => (rs_cons (rs_if (rt_not (rt_truth (re_isi (T := "list") (by decide) rfl (T.free 17) (pty T 0 (by decide +kernel)) (rv 1)))) (rs_one (rs_raise T 36 30 tk)) rs_nil)
  (rs_cons (rs_forA po rfl (rv 1) (rgn 2 sc_Memory_cut.nd) (rs_one (rs_if (rt_bool (rw_or (rt_not (rt_truth (re_isi (T := "int") (by decide) rfl (T.free 17) (pty T 19 (by decide +kernel)) (rv 2)))) (rw_or (rt_truth (re_isi (T := "bool") (by decide) rfl (T.free 17) (pty T 18 (by decide +kernel)) (rv 2))) (rw_or1 (rt_lt (rv 2) re_int))))) (rs_one (rs_raise T 36 30 tk)) rs_nil)))
  (rs_cons (rst 3 sc_Memory_cut.nd (re_meth (re_fld (rv 0) (plOk_by (by decide +kernel))) (g_Layout_call_slot T) runDefT_ar (hr.mono (by decide)) passE (ra_cons re_int ra_nil)))
  (rs_cons (rs_forR2 po rfl rfl (T.free 27) (ra_cons (rv 3) (ra_cons (re_meth0 (re_fld (rv 0) (plOk_by (by decide +kernel))) (g_Layout_cells T) runDefT_ar (hr.mono (by decide)) passE) ra_nil)) (rgn 4 sc_Memory_cut.nd) (rs_cons (rs_if (rt_lt (re_sub (rv 4) (rv 3)) (re_callB call_len s_len (by rfl) (T.free 8) (by decide +kernel) (ra_cons (rv 1) ra_nil))) (rs_one (rs_ex (re_meth (rv 0) (g_Memory_shorten T) runDef_ar (hr.mono (by decide)) passE (ra_cons (rv 4) (ra_cons (re_ixA hr.units (rv 1) (re_sub (rv 4) (rv 3))) ra_nil))))) rs_nil)
  (rs_one (rs_put hr.units (re_fld (rv 0) (plOk_by (by decide +kernel))) (rv 4) (re_sl (re_ixA hr.units (re_fld (rv 0) (plOk_by (by decide +kernel))) (rv 4)) ro_none (ro_some re_int))))))
  (rs_cons (rs_forR1 po rfl rfl (T.free 27) (ra_cons (rv 3) ra_nil) (rgn 4 sc_Memory_cut.nd) (rs_one (rs_put hr.units (re_fld (rv 0) (plOk_by (by decide +kernel))) (rv 4) (re_lst (ra_cons re_non ra_nil)))))
  (rs_cons (rs_put hr.units (re_fld (rv 0) (plOk_by (by decide +kernel))) (re_meth0 (re_fld (rv 0) (plOk_by (by decide +kernel))) (g_Layout_epoch T) runDefT_ar (hr.mono (by decide)) passE) (re_lst (ra_cons re_int ra_nil)))
  (rs_one (rs_fld (by decide +kernel) (rv 0) (re_meth0 (rv 0) (g_Memory_no_notes T) runDef_ar (hr.mono (by decide)) passE)))))))))
theorem g_Memory_cut_R (T : Txt fa fn fx ts w K mg) : MF P w K mg base (CX P w) 3 1 "cut" 2 m_Memory_cut_R [] :=
  mfX (mm := m_Memory_cut_R) (by exact Wk.refl) (params := defArgs (inClass (top 12) 14)) (body := defBody (inClass (top 12) 14)) (scope := defScope (inClass (top 12) 14)) (m := "cut") (q := "Memory.cut") T 16 37 1 1 sc_Memory_cut (b := b_Memory_cut_R) (bo_Memory_cut_R T) (fun _ _ _ _ _ _ us hl => match us, hl with | [_, _], _ => rfl)
theorem bo_Memory_check_cell_R (T : Txt fa fn fx ts w K mg) (f : Addr) : BodyX P w K mg base ["self", "cell"] "Memory.check_cell" (defBody (inClass (top 12) 2)) (defScope (inClass (top 12) 2)) f 1 b_Memory_check_cell_R := fun cdv A outer s H E hr po tk hx => (rs_one (rs_if (rt_not (rt_truth (re_call (g_is_within T) runDefT_ar (hr.mono (by decide)) (by rfl) passE (ra_cons (rv 1) (ra_cons re_int (ra_cons (re_sub (re_callB call_len s_len (by rfl) (T.free 8) (by decide +kernel) (ra_cons (re_fld (rv 0) (plOk_by (by decide +kernel))) ra_nil)) re_int) ra_nil)))))) (rs_one (rs_raise T 36 30 tk)) rs_nil))
theorem g_Memory_check_cell_R (T : Txt fa fn fx ts w K mg) : MF P w K mg base (CX P w) 2 1 "check_cell" 2 m_Memory_check_cell_R [] :=
  mfX (mm := m_Memory_check_cell_R) (by exact Wk.refl) (params := defArgs (inClass (top 12) 2)) (body := defBody (inClass (top 12) 2)) (scope := defScope (inClass (top 12) 2)) (m := "check_cell") (q := "Memory.check_cell") T 6 21 1 1 sc_Memory_check_cell (b := b_Memory_check_cell_R) (bo_Memory_check_cell_R T) (fun _ _ _ _ _ _ us hl => match us, hl with | [_, _], _ => rfl)
theorem bo_Memory_check_lasting_R (T : Txt fa fn fx ts w K mg) (f : Addr) : BodyX P w K mg base ["self", "cell"] "Memory.check_lasting" (defBody (inClass (top 12) 3)) (defScope (inClass (top 12) 3)) f 3 b_Memory_check_lasting_R := fun cdv A outer s H E hr po tk hx => (rs_cons (rs_ex (re_meth (rv 0) (g_Memory_check_cell_R T) runDef_ar (hr.mono (by decide)) hx (ra_cons (rv 1) ra_nil)))
  (rs_one (rs_if (rt_not (rt_truth (re_meth (re_fld (rv 0) (plOk_by (by decide +kernel))) (g_Layout_is_lasting T) runDefT_ar (hr.mono (by decide)) passE (ra_cons (rv 1) ra_nil)))) (rs_one (rs_raise T 36 30 tk)) rs_nil)))
theorem g_Memory_check_lasting_R (T : Txt fa fn fx ts w K mg) : MF P w K mg base (CX P w) 4 1 "check_lasting" 2 m_Memory_check_lasting_R [] :=
  mfX (mm := m_Memory_check_lasting_R) (by exact Wk.refl) (params := defArgs (inClass (top 12) 3)) (body := defBody (inClass (top 12) 3)) (scope := defScope (inClass (top 12) 3)) (m := "check_lasting") (q := "Memory.check_lasting") T 7 22 1 1 sc_Memory_check_lasting (b := b_Memory_check_lasting_R) (bo_Memory_check_lasting_R T) (fun _ _ _ _ _ _ us hl => match us, hl with | [_, _], _ => rfl)
theorem sc_Memory_drift : FnScope ["self", "cell", "steps"] ["self", "cell", "steps"] (defScope (inClass (top 12) 13)) := ⟨rfl, rfl, rfl, by decide +kernel, rfl, by decide +kernel, by decide +kernel⟩
theorem bo_Memory_drift_R (T : Txt fa fn fx ts w K mg) (f : Addr) : BodyX P w K mg base ["self", "cell", "steps"] "Memory.drift" (defBody (inClass (top 12) 13)) (defScope (inClass (top 12) 13)) f 4 b_Memory_drift_R := fun cdv A outer s H E hr po tk hx => (rs_cons (rs_ex (re_meth (rv 0) (g_Memory_check_lasting_R T) runDef_ar (hr.mono (by decide)) hx (ra_cons (rv 1) ra_nil)))
  (rs_cons (rs_if (rt_bool (rw_or (rt_not (rt_truth (re_isi (T := "int") (by decide) rfl (T.free 17) (pty T 19 (by decide +kernel)) (rv 2)))) (rw_or (rt_truth (re_isi (T := "bool") (by decide) rfl (T.free 17) (pty T 18 (by decide +kernel)) (rv 2))) (rw_or1 (rt_lt (rv 2) re_int))))) (rs_one (rs_raise T 36 30 tk)) rs_nil)
  (rs_one (rs_ex (re_meth (rv 0) (g_Memory_shorten T) runDef_ar (hr.mono (by decide)) passE (ra_cons (rv 1) (ra_cons (rv 2) ra_nil)))))))
theorem g_Memory_drift_R (T : Txt fa fn fx ts w K mg) : MF P w K mg base (CX P w) 5 1 "drift" 3 m_Memory_drift_R [] :=
  mfX (mm := m_Memory_drift_R) (by exact Wk.refl) (params := defArgs (inClass (top 12) 13)) (body := defBody (inClass (top 12) 13)) (scope := defScope (inClass (top 12) 13)) (m := "drift") (q := "Memory.drift") T 17 38 1 1 sc_Memory_drift (b := b_Memory_drift_R) (bo_Memory_drift_R T) (fun _ _ _ _ _ _ us hl => match us, hl with | [_, _, _], _ => rfl)
theorem sc_Memory_give : FnScope ["self", "cell", "value"] ["self", "cell", "value"] (defScope (inClass (top 12) 7)) := ⟨rfl, rfl, rfl, by decide +kernel, rfl, by decide +kernel, by decide +kernel⟩
theorem bo_Memory_give (T : Txt fa fn fx ts w K mg) (f : Addr) : Body0 P w K mg base ["self", "cell", "value"] "Memory.give" (defBody (inClass (top 12) 7)) (defScope (inClass (top 12) 7)) f 3 b_Memory_give := fun cdv A outer s H E hr => (rs_one (rs_if (rt_truth (re_meth (re_fld (rv 0) (plOk_by (by decide +kernel))) (g_Layout_is_lasting T) runDefT_ar (hr.mono (by decide)) passE (ra_cons (rv 1) ra_nil))) (rs_one (rs_ex (re_app (re_ixA hr.units (re_fld (rv 0) (plOk_by (by decide +kernel))) (rv 1)) (rv 2)))) (rs_one (rs_put hr.units (re_fld (rv 0) (plOk_by (by decide +kernel))) (rv 1) (re_lst (ra_cons (rv 2) ra_nil))))))
theorem g_Memory_give (T : Txt fa fn fx ts w K mg) : MF P w K mg base CX0 4 1 "give" 3 m_Memory_give [] :=
  mf0 (mm := m_Memory_give) (by exact Wk.refl) (params := defArgs (inClass (top 12) 7)) (body := defBody (inClass (top 12) 7)) (scope := defScope (inClass (top 12) 7)) (m := "give") (q := "Memory.give") T 18 39 1 1 sc_Memory_give (b := b_Memory_give) (bo_Memory_give T) (fun _ _ _ _ _ _ us hl => match us, hl with | [_, _, _], _ => rfl)
theorem sc_Memory_fence : FnScope ["self", "thread", "places", "cell"] ["self", "thread"] (defScope (inClass (top 12) 8)) := ⟨rfl, rfl, rfl, by decide +kernel, rfl, by decide +kernel, by decide +kernel⟩
theorem bo_Memory_fence (T : Txt fa fn fx ts w K mg) (f : Addr) : Body0 P w K mg base ["self", "thread", "places", "cell"] "Memory.fence" (defBody (inClass (top 12) 8)) (defScope (inClass (top 12) 8)) f 1 b_Memory_fence := fun cdv A outer s H E hr => (rs_cons (rst 2 sc_Memory_fence.nd (re_ixA hr.units (re_fld (rv 0) (plOk_by (by decide +kernel))) (rv 1)))
  (rs_cons (rs_put hr.units (re_fld (rv 0) (plOk_by (by decide +kernel))) (rv 1) re_dic0)
  (rs_one (rs_forA PassesOwn.never rfl (re_callB (CallR.or1 (CallR.or1 cr_sortedI (call_sortedDI rfl)) (cr_sortT hr.units)) ((s_sortL.or s_sortD).or s_sortT) (by rfl) (T.free 40) (by decide +kernel) (ra_cons (rv 2) ra_nil)) (rgn 3 sc_Memory_fence.nd) (rs_one (rs_ex (re_meth (rv 0) (g_Memory_shorten T) runDef_ar (hr.mono (by decide)) passE (ra_cons (rv 3) (ra_cons (re_ixA hr.units (rv 2) (rv 3)) ra_nil)))))))))
theorem g_Memory_fence (T : Txt fa fn fx ts w K mg) : MF P w K mg base CX0 2 1 "fence" 2 m_Memory_fence [] :=
  mf0 (mm := m_Memory_fence) (by exact Wk.refl) (params := defArgs (inClass (top 12) 8)) (body := defBody (inClass (top 12) 8)) (scope := defScope (inClass (top 12) 8)) (m := "fence") (q := "Memory.fence") T 19 41 1 1 sc_Memory_fence (b := b_Memory_fence) (bo_Memory_fence T) (fun _ _ _ _ _ _ us hl => match us, hl with | [_, _], _ => rfl)
theorem sc_Memory_result : FnScope ["self", "thread", "request", "kind", "cell", "value"] ["self", "thread", "request"] (defScope (inClass (top 12) 6)) := ⟨rfl, rfl, rfl, by decide +kernel, rfl, by decide +kernel, by decide +kernel⟩
theorem bo_Memory_result (T : Txt fa fn fx ts w K mg) (f : Addr) : Body0 P w K mg base ["self", "thread", "request", "kind", "cell", "value"] "Memory.result" (defBody (inClass (top 12) 6)) (defScope (inClass (top 12) 6)) f 4 b_Memory_result := fun cdv A outer s H E hr => (rs_cons (rst 3 sc_Memory_result.nd (re_ixA hr.units (rv 2) re_int))
  (rs_cons (rs_if (rt_eqA hr.units (rv 3) (re_str (k := 7))) (rs_one (rs_ret (re_meth (rv 0) (g_Memory_fence T) runDef_ar (hr.mono (by decide)) passE (ra_cons (rv 1) ra_nil)))) rs_nil)
  (rs_cons (rst 4 sc_Memory_result.nd (re_ixA hr.units (rv 2) re_int))
  (rs_cons (rs_if (rt_eqA hr.units (rv 3) (re_str (k := 6))) (rs_cons (rs_put hr.units (re_ixA hr.units (re_fld (rv 0) (plOk_by (by decide +kernel))) (rv 1)) (rv 4) (re_sub (re_callB call_len s_len (by rfl) (T.free 8) (by decide +kernel) (ra_cons (re_ixA hr.units (re_fld (rv 0) (plOk_by (by decide +kernel))) (rv 4)) ra_nil)) re_int))
  (rs_one (rs_ret re_non))) rs_nil)
  (rs_cons (rst 5 sc_Memory_result.nd (re_ixA hr.units (re_ixA hr.units (re_fld (rv 0) (plOk_by (by decide +kernel))) (rv 4)) (re_neg re_int)))
  (rs_cons (rs_if (rt_eqA hr.units (rv 3) (re_str (k := 2))) (rs_one (rs_ret (rv 5))) rs_nil)
  (rs_cons (rs_if (rt_eqA hr.units (rv 3) (re_str (k := 3))) (rs_cons (rs_ex (re_meth (rv 0) (g_Memory_give T) runDef_ar (hr.mono (by decide)) passE (ra_cons (rv 4) (ra_cons (re_ixA hr.units (rv 2) re_int) ra_nil))))
  (rs_one (rs_ret re_non))) rs_nil)
  (rs_cons (rs_if (rt_eqA hr.units (rv 3) (re_str (k := 4))) (rs_cons (rs_if (rt_neA hr.units (rv 5) (re_ixA hr.units (rv 2) re_int)) (rs_one (rs_ret re_bl)) rs_nil)
  (rs_cons (rs_ex (re_meth (rv 0) (g_Memory_give T) runDef_ar (hr.mono (by decide)) passE (ra_cons (rv 4) (ra_cons (re_ixA hr.units (rv 2) re_int) ra_nil))))
  (rs_one (rs_ret re_bl)))) rs_nil)
  (rs_cons (rs_if (rt_neA hr.units (rv 5) re_int) (rs_one (rs_ret re_bl)) rs_nil)
  (rs_cons (rs_ex (re_meth (rv 0) (g_Memory_give T) runDef_ar (hr.mono (by decide)) passE (ra_cons (rv 4) (ra_cons (re_tup (ra_cons (re_ixA hr.units (rv 2) re_int) (ra_cons (re_fld (rv 0) (plOk_by (by decide +kernel))) ra_nil))) ra_nil))))
  (rs_one (rs_ret re_bl))))))))))))
theorem g_Memory_result (T : Txt fa fn fx ts w K mg) : MF P w K mg base CX0 5 1 "result" 3 m_Memory_result [] :=
  mf0 (mm := m_Memory_result) (by exact Wk.refl) (params := defArgs (inClass (top 12) 6)) (body := defBody (inClass (top 12) 6)) (scope := defScope (inClass (top 12) 6)) (m := "result") (q := "Memory.result") T 20 42 1 1 sc_Memory_result (b := b_Memory_result) (bo_Memory_result T) (fun _ _ _ _ _ _ us hl => match us, hl with | [_, _, _], _ => rfl)
theorem sc_Memory_check_request : FnScope ["self", "thread", "request"] ["self", "thread", "request"] (defScope (inClass (top 12) 4)) := ⟨rfl, rfl, rfl, by decide +kernel, rfl, by decide +kernel, by decide +kernel⟩
theorem bo_Memory_check_request_R (T : Txt fa fn fx ts w K mg) (f : Addr) : BodyX P w K mg base ["self", "thread", "request"] "Memory.check_request" (defBody (inClass (top 12) 4)) (defScope (inClass (top 12) 4)) f 4 b_Memory_check_request_R := fun cdv A outer s H E hr po tk hx => (rs_cons (rs_if (rt_bool (rw_or (rt_not (rt_truth (re_call (g_is_within T) runDefT_ar (hr.mono (by decide)) (by rfl) passE (ra_cons (rv 1) (ra_cons re_int (ra_cons (re_sub (re_fld (re_fld (rv 0) (plOk_by (by decide +kernel))) (plOk_by (by decide +kernel))) re_int) ra_nil)))))) (rw_or (rt_not (rt_truth (re_isi (T := "tuple") (by decide) rfl (T.free 17) (pty T 29 (by decide +kernel)) (rv 2)))) (rw_or1 (rt_eqA hr.units (re_callB call_len s_len (by rfl) (T.free 8) (by decide +kernel) (ra_cons (rv 2) ra_nil)) re_int))))) (rs_one (rs_raise T 36 30 tk)) rs_nil)
  (rs_cons (rs_if (rt_neA hr.units (re_kget T 43 0 1 (re_ixA hr.units (rv 2) re_int) ⟨rfl, rfl, rfl, rfl⟩) (re_callB call_len s_len (by rfl) (T.free 8) (by decide +kernel) (ra_cons (rv 2) ra_nil))) (rs_one (rs_raise T 36 30 tk)) rs_nil)
  (rs_one (rs_if (rt_eqA hr.units (re_ixA hr.units (rv 2) re_int) (re_str (k := 6))) (rs_one (rs_ex (re_meth (rv 0) (g_Memory_check_lasting_R T) runDef_ar (hr.mono (by decide)) hx (ra_cons (re_ixA hr.units (rv 2) re_int) ra_nil)))) (rs_one (rs_if (rt_neA hr.units (re_ixA hr.units (rv 2) re_int) (re_str (k := 7))) (rs_one (rs_ex (re_meth (rv 0) (g_Memory_check_cell_R T) runDef_ar (hr.mono (by decide)) hx (ra_cons (re_ixA hr.units (rv 2) re_int) ra_nil)))) rs_nil))))))
theorem g_Memory_check_request_R (T : Txt fa fn fx ts w K mg) : MF P w K mg base (CX P w) 5 1 "check_request" 3 m_Memory_check_request_R [] :=
  mfX (mm := m_Memory_check_request_R) (by exact Wk.refl) (params := defArgs (inClass (top 12) 4)) (body := defBody (inClass (top 12) 4)) (scope := defScope (inClass (top 12) 4)) (m := "check_request") (q := "Memory.check_request") T 21 44 1 1 sc_Memory_check_request (b := b_Memory_check_request_R) (bo_Memory_check_request_R T) (fun _ _ _ _ _ _ us hl => match us, hl with | [_, _, _], _ => rfl)
theorem sc_Memory_access : FnScope ["self", "thread", "request"] ["self", "thread", "request"] (defScope (inClass (top 12) 5)) := ⟨rfl, rfl, rfl, by decide +kernel, rfl, by decide +kernel, by decide +kernel⟩
theorem bo_Memory_access_R (T : Txt fa fn fx ts w K mg) (f : Addr) : BodyX P w K mg base ["self", "thread", "request"] "Memory.access" (defBody (inClass (top 12) 5)) (defScope (inClass (top 12) 5)) f 5 b_Memory_access_R := fun cdv A outer s H E hr po tk hx => (rs_cons (rs_ex (re_meth (rv 0) (g_Memory_check_request_R T) runDef_ar (hr.mono (by decide)) hx (ra_cons (rv 1) (ra_cons (rv 2) ra_nil))))
  (rs_cons (rs_fldaug (by decide +kernel) (rv 0) re_int)
  (rs_cons (rs_ex (re_app (re_fld (rv 0) (plOk_by (by decide +kernel))) (re_tup (ra_cons (re_fld (rv 0) (plOk_by (by decide +kernel))) (ra_cons (rv 1) (ra_cons (rv 2) ra_nil))))))
  (rs_one (rs_ret (re_tup (ra_cons (re_meth (rv 0) (g_Memory_result T) runDef_ar (hr.mono (by decide)) passE (ra_cons (rv 1) (ra_cons (rv 2) ra_nil))) (ra_cons (re_fld (rv 0) (plOk_by (by decide +kernel))) ra_nil))))))))
theorem g_Memory_access_R (T : Txt fa fn fx ts w K mg) : MF P w K mg base (CX P w) 6 1 "access" 3 m_Memory_access_R [] :=
  mfX (mm := m_Memory_access_R) (by exact Wk.refl) (params := defArgs (inClass (top 12) 5)) (body := defBody (inClass (top 12) 5)) (scope := defScope (inClass (top 12) 5)) (m := "access") (q := "Memory.access") T 22 45 1 1 sc_Memory_access (b := b_Memory_access_R) (bo_Memory_access_R T) (fun _ _ _ _ _ _ us hl => match us, hl with | [_, _, _], _ => rfl)
theorem sc__law_do : FnScope ["_law_memory", "_law_act", "_law_first", "_law_second", "e"] ["_law_memory", "_law_act", "_law_first", "_law_second"] (defScope (top 17)) := ⟨rfl, rfl, rfl, by decide +kernel, rfl, by decide +kernel, by decide +kernel⟩
theorem bo__law_do (T : Txt fa fn fx ts w K mg) (f : Addr) : Body0 P w K mg base ["_law_memory", "_law_act", "_law_first", "_law_second", "e"] "_law_do" (defBody (top 17)) (defScope (top 17)) f 6 b__law_do := fun cdv A outer s H E hr => (rs_one (rs_try (i := 4) T 46 47 (fun pn xe E po hx => (rs_cons (rs_if (rt_eqA hr.units (rv 1) (re_str (k := 10))) (rs_one (rs_ret (re_meth (rv 0) (g_Memory_access_R T) runDef_ar (hr.mono (by decide)) hx (ra_cons (rv 2) (ra_cons (rv 3) ra_nil))))) rs_nil)
  (rs_cons (rs_if (rt_eqA hr.units (rv 1) (re_str (k := 11))) (rs_one (rs_ret (re_meth (rv 0) (g_Memory_drift_R T) runDef_ar (hr.mono (by decide)) hx (ra_cons (rv 2) (ra_cons (rv 3) ra_nil))))) rs_nil)
  (rs_one (rs_ret (re_meth (rv 0) (g_Memory_cut_R T) runDef_ar (hr.mono (by decide)) hx (ra_cons (rv 2) ra_nil))))))) (fun a oe pn hz hf => (su_lst2 (pe_isiE T 4 17 30 0 hz hf))) sc__law_do.nd rfl))
theorem g__law_do (T : Txt fa fn fx ts w K mg) : GF P w K mg base CX0 7 "_law_do" 4 m__law_do [] :=
  gf0 (mm := m__law_do) (by exact Wk.refl) (params := defArgs (top 17)) (body := defBody (top 17)) (scope := defScope (top 17)) (x := "_law_do") T 23 48 sc__law_do (b := b__law_do) (bo__law_do T) (fun _ _ _ _ _ _ us hl => match us, hl with | [_, _, _, _], _ => rfl)
theorem sc__law_give : FnScope ["_law_w", "_law_cell", "_law_value_here"] ["_law_w", "_law_cell", "_law_value_here"] (defScope (top 19)) := ⟨rfl, rfl, rfl, by decide +kernel, rfl, by decide +kernel, by decide +kernel⟩
theorem bo__law_give (T : Txt fa fn fx ts w K mg) (f : Addr) : Body0 P w K mg base ["_law_w", "_law_cell", "_law_value_here"] "_law_give" (defBody (top 19)) (defScope (top 19)) f 0 b__law_give := fun cdv A outer s H E hr => (rs_one (rs_if (rt_lt (rv 1) re_int) (rs_one (rs_put hr.units (re_ixA hr.units (rv 0) (re_str (k := 15))) (rv 1) (re_lst (ra_cons (rv 2) ra_nil)))) (rs_one (rs_put hr.units (re_ixA hr.units (rv 0) (re_str (k := 15))) (rv 1) (re_add (re_ixA hr.units (re_ixA hr.units (rv 0) (re_str (k := 15))) (rv 1)) (re_lst (ra_cons (rv 2) ra_nil)))))))
theorem g__law_give (T : Txt fa fn fx ts w K mg) : GF P w K mg base CX0 1 "_law_give" 3 m__law_give [] :=
  gf0 (mm := m__law_give) (by exact Wk.refl) (params := defArgs (top 19)) (body := defBody (top 19)) (scope := defScope (top 19)) (x := "_law_give") T 24 49 sc__law_give (b := b__law_give) (bo__law_give T) (fun _ _ _ _ _ _ us hl => match us, hl with | [_, _, _], _ => rfl)
theorem sc__law_shorten : FnScope ["_law_w", "_law_cell", "_law_steps", "_law_notes"] ["_law_w", "_law_cell", "_law_steps"] (defScope (top 20)) := ⟨rfl, rfl, rfl, by decide +kernel, rfl, by decide +kernel, by decide +kernel⟩
theorem bo__law_shorten (T : Txt fa fn fx ts w K mg) (f : Addr) : Body0 P w K mg base ["_law_w", "_law_cell", "_law_steps", "_law_notes"] "_law_shorten" (defBody (top 20)) (defScope (top 20)) f 0 b__law_shorten := fun cdv A outer s H E hr => (rs_cons (rst 2 sc__law_shorten.nd (re_callB (call_min2 rfl) s_min (by rfl) (T.free 34) (by decide +kernel) (ra_cons (rv 2) (ra_cons (re_sub (re_callB call_len s_len (by rfl) (T.free 8) (by decide +kernel) (ra_cons (re_ixA hr.units (re_ixA hr.units (rv 0) (re_str (k := 15))) (rv 1)) ra_nil)) re_int) ra_nil))))
  (rs_one (rs_if (rt_gt (rv 2) re_int) (rs_cons (rs_put hr.units (re_ixA hr.units (rv 0) (re_str (k := 15))) (rv 1) (re_sl (re_ixA hr.units (re_ixA hr.units (rv 0) (re_str (k := 15))) (rv 1)) (ro_some (rv 2)) ro_none))
  (rs_one (rs_forA PassesOwn.never rfl (re_ixA hr.units (rv 0) (re_str (k := 16))) (rgn 3 sc__law_shorten.nd) (rs_one (rs_if (rt_inA hr.units (rv 1) (rv 3)) (rs_one (rs_put hr.units (rv 3) (rv 1) (re_callB (call_max2 rfl) s_max (by rfl) (T.free 33) (by decide +kernel) (ra_cons re_int (ra_cons (re_sub (re_ixA hr.units (rv 3) (rv 1)) (rv 2)) ra_nil))))) rs_nil))))) rs_nil)))
theorem g__law_shorten (T : Txt fa fn fx ts w K mg) : GF P w K mg base CX0 1 "_law_shorten" 3 m__law_shorten [] :=
  gf0 (mm := m__law_shorten) (by exact Wk.refl) (params := defArgs (top 20)) (body := defBody (top 20)) (scope := defScope (top 20)) (x := "_law_shorten") T 25 50 sc__law_shorten (b := b__law_shorten) (bo__law_shorten T) (fun _ _ _ _ _ _ us hl => match us, hl with | [_, _, _], _ => rfl)
theorem sc__law_due : FnScope ["_law_w", "_law_thread", "_law_request_here", "_law_kind", "_law_cell", "_law_value_here", "_law_notes"] ["_law_w", "_law_thread", "_law_request_here"] (defScope (top 21)) := ⟨rfl, rfl, rfl, by decide +kernel, rfl, by decide +kernel, by decide +kernel⟩
theorem bo__law_due (T : Txt fa fn fx ts w K mg) (f : Addr) : Body0 P w K mg base ["_law_w", "_law_thread", "_law_request_here", "_law_kind", "_law_cell", "_law_value_here", "_law_notes"] "_law_due" (defBody (top 21)) (defScope (top 21)) f 1 b__law_due := fun cdv A outer s H E hr => (rs_cons (rst 3 sc__law_due.nd (re_ixA hr.units (rv 2) re_int))
  (rs_cons (rs_if (rt_eqA hr.units (rv 3) (re_str (k := 7))) (rs_cons (rst 6 sc__law_due.nd (re_callTy (CallR.or1 call_dictD (call_dictP rfl)) (s_dict.or s_dictP) (by rfl) (T.free 51) (by decide +kernel) (ra_cons (re_ixA hr.units (re_ixA hr.units (rv 0) (re_str (k := 16))) (rv 1)) ra_nil)))
  (rs_cons (rs_put hr.units (re_ixA hr.units (rv 0) (re_str (k := 16))) (rv 1) re_dic0)
  (rs_cons (rs_forA PassesOwn.never rfl (re_callB (CallR.or1 (CallR.or1 cr_sortedI (call_sortedDI rfl)) (cr_sortT hr.units)) ((s_sortL.or s_sortD).or s_sortT) (by rfl) (T.free 40) (by decide +kernel) (ra_cons (rv 6) ra_nil)) (rgn 4 sc__law_due.nd) (rs_one (rs_ex (re_call (g__law_shorten T) runDef_ar (hr.mono (by decide)) (by rfl) passE (ra_cons (rv 0) (ra_cons (rv 4) (ra_cons (re_ixA hr.units (rv 6) (rv 4)) ra_nil)))))))
  (rs_one (rs_ret re_non))))) rs_nil)
  (rs_cons (rst 4 sc__law_due.nd (re_ixA hr.units (rv 2) re_int))
  (rs_cons (rst 5 sc__law_due.nd (re_ixA hr.units (re_ixA hr.units (re_ixA hr.units (rv 0) (re_str (k := 15))) (rv 4)) (re_neg re_int)))
  (rs_cons (rs_if (rt_eqA hr.units (rv 3) (re_str (k := 6))) (rs_cons (rs_put hr.units (re_ixA hr.units (re_ixA hr.units (rv 0) (re_str (k := 16))) (rv 1)) (rv 4) (re_sub (re_callB call_len s_len (by rfl) (T.free 8) (by decide +kernel) (ra_cons (re_ixA hr.units (re_ixA hr.units (rv 0) (re_str (k := 15))) (rv 4)) ra_nil)) re_int))
  (rs_one (rs_ret re_non))) rs_nil)
  (rs_cons (rs_if (rt_eqA hr.units (rv 3) (re_str (k := 2))) (rs_one (rs_ret (rv 5))) rs_nil)
  (rs_cons (rs_if (rt_eqA hr.units (rv 3) (re_str (k := 3))) (rs_cons (rs_ex (re_call (g__law_give T) runDef_ar (hr.mono (by decide)) (by rfl) passE (ra_cons (rv 0) (ra_cons (rv 4) (ra_cons (re_ixA hr.units (rv 2) re_int) ra_nil)))))
  (rs_one (rs_ret re_non))) rs_nil)
  (rs_cons (rs_if (rt_eqA hr.units (rv 3) (re_str (k := 4))) (rs_cons (rs_if (rt_neA hr.units (rv 5) (re_ixA hr.units (rv 2) re_int)) (rs_one (rs_ret re_bl)) rs_nil)
  (rs_cons (rs_ex (re_call (g__law_give T) runDef_ar (hr.mono (by decide)) (by rfl) passE (ra_cons (rv 0) (ra_cons (rv 4) (ra_cons (re_ixA hr.units (rv 2) re_int) ra_nil)))))
  (rs_one (rs_ret re_bl)))) rs_nil)
  (rs_cons (rs_if (rt_neA hr.units (rv 5) re_int) (rs_one (rs_ret re_bl)) rs_nil)
  (rs_cons (rs_ex (re_call (g__law_give T) runDef_ar (hr.mono (by decide)) (by rfl) passE (ra_cons (rv 0) (ra_cons (rv 4) (ra_cons (re_tup (ra_cons (re_ixA hr.units (rv 2) re_int) (ra_cons (re_ixA hr.units (rv 0) (re_str (k := 17))) ra_nil))) ra_nil)))))
  (rs_one (rs_ret re_bl))))))))))))
theorem g__law_due (T : Txt fa fn fx ts w K mg) : GF P w K mg base CX0 2 "_law_due" 3 m__law_due [] :=
  gf0 (mm := m__law_due) (by exact Wk.refl) (params := defArgs (top 21)) (body := defBody (top 21)) (scope := defScope (top 21)) (x := "_law_due") T 26 52 sc__law_due (b := b__law_due) (bo__law_due T) (fun _ _ _ _ _ _ us hl => match us, hl with | [_, _, _], _ => rfl)
theorem sc__law_value : FnScope ["_law_number"] ["_law_number"] (defScope (top 16)) := ⟨rfl, rfl, rfl, by decide +kernel, rfl, by decide +kernel, by decide +kernel⟩
theorem bo__law_value (T : Txt fa fn fx ts w K mg) (f : Addr) : Body0 P w K mg base ["_law_number"] "_law_value" (defBody (top 16)) (defScope (top 16)) f 0 b__law_value := fun cdv A outer s H E hr => (rs_one (rs_ret (re_ixA hr.units (re_lst (ra_cons re_int (ra_cons re_int (ra_cons re_non (ra_cons (re_tup (ra_cons (rv 0) (ra_cons re_int ra_nil))) (ra_cons (re_str (k := 8)) (ra_cons (rv 0) (ra_cons re_int (ra_cons (re_tup (ra_cons (re_str (k := 9)) (ra_cons re_int ra_nil))) ra_nil))))))))) (re_mod (rv 0) re_int))))
theorem g__law_value (T : Txt fa fn fx ts w K mg) : GF P w K mg base CX0 1 "_law_value" 1 m__law_value [] :=
  gf0 (mm := m__law_value) (by exact Wk.trunc) (params := defArgs (top 16)) (body := defBody (top 16)) (scope := defScope (top 16)) (x := "_law_value") T 27 53 sc__law_value (b := b__law_value) (bo__law_value T) (fun _ _ _ _ _ _ us hl => match us, hl with | [_], _ => rfl)
theorem sc__law_request : FnScope ["_law_w", "_law_number", "_law_pick", "_law_other", "_law_cell", "_law_kind", "_law_old"] ["_law_w", "_law_number", "_law_pick", "_law_other"] (defScope (top 23)) := ⟨rfl, rfl, rfl, by decide +kernel, rfl, by decide +kernel, by decide +kernel⟩
theorem bo__law_request (T : Txt fa fn fx ts w K mg) (f : Addr) : Body0 P w K mg base ["_law_w", "_law_number", "_law_pick", "_law_other", "_law_cell", "_law_kind", "_law_old"] "_law_request" (defBody (top 23)) (defScope (top 23)) f 1 b__law_request := fun cdv A outer s H E hr => (rs_cons (rst 4 sc__law_request.nd (re_ixA hr.units (re_lst (ra_cons re_int (ra_cons re_int (ra_cons re_int (ra_cons re_int (ra_cons re_int (ra_cons re_int (ra_cons re_int (ra_cons re_int (ra_cons (re_add re_int (re_mod (rv 2) re_int)) ra_nil)))))))))) (re_mod (rv 2) re_int)))
  (rs_cons (rst 5 sc__law_request.nd (re_mod (rv 1) re_int))
  (rs_cons (rs_if (rt_lt (rv 5) re_int) (rs_one (rs_ret (re_tup (ra_cons (re_str (k := 3)) (ra_cons (rv 4) (ra_cons (re_call (g__law_value T) runDefT_ar (hr.mono (by decide)) (by rfl) passE (ra_cons (rv 3) ra_nil)) ra_nil)))))) rs_nil)
  (rs_cons (rs_if (rt_eqA hr.units (rv 5) re_int) (rs_cons (rst 6 sc__law_request.nd (re_ixA hr.units (re_ixA hr.units (re_ixA hr.units (rv 0) (re_str (k := 15))) (rv 4)) (re_neg re_int)))
  (rs_cons (rs_if (rt_eqA hr.units (re_mod (rv 3) re_int) re_int) (rs_one (rst 6 sc__law_request.nd (re_call (g__law_value T) runDefT_ar (hr.mono (by decide)) (by rfl) passE (ra_cons (re_div (rv 3) re_int) ra_nil)))) rs_nil)
  (rs_one (rs_ret (re_tup (ra_cons (re_str (k := 4)) (ra_cons (rv 4) (ra_cons (rv 6) (ra_cons (re_call (g__law_value T) runDefT_ar (hr.mono (by decide)) (by rfl) passE (ra_cons (re_div (rv 3) re_int) ra_nil)) ra_nil))))))))) rs_nil)
  (rs_cons (rs_if (rt_eqA hr.units (rv 5) re_int) (rs_one (rs_ret (re_tup (ra_cons (re_str (k := 5)) (ra_cons (rv 4) (ra_cons (re_ixA hr.units (re_lst (ra_cons (re_str (k := 9)) (ra_cons (re_str (k := 18)) ra_nil))) (re_mod (rv 3) re_int)) ra_nil)))))) rs_nil)
  (rs_cons (rs_if (rt_eqA hr.units (rv 5) re_int) (rs_one (rs_ret (re_tup (ra_cons (re_str (k := 2)) (ra_cons (rv 4) ra_nil))))) rs_nil)
  (rs_cons (rs_if (rt_lt (rv 5) re_int) (rs_one (rs_ret (re_tup (ra_cons (re_str (k := 6)) (ra_cons (re_callB (call_max2 rfl) s_max (by rfl) (T.free 33) (by decide +kernel) (ra_cons re_int (ra_cons (rv 4) ra_nil))) ra_nil))))) rs_nil)
  (rs_one (rs_ret (re_tup (ra_cons (re_str (k := 7)) ra_nil)))))))))))
theorem g__law_request (T : Txt fa fn fx ts w K mg) : GF P w K mg base CX0 2 "_law_request" 4 m__law_request [] :=
  gf0 (mm := m__law_request) (by exact Wk.trunc) (params := defArgs (top 23)) (body := defBody (top 23)) (scope := defScope (top 23)) (x := "_law_request") T 28 54 sc__law_request (b := b__law_request) (bo__law_request T) (fun _ _ _ _ _ _ us hl => match us, hl with | [_, _, _, _], _ => rfl)
theorem sc__law_cut : FnScope ["_law_w", "_law_choices", "_law_cell"] ["_law_w", "_law_choices"] (defScope (top 22)) := ⟨rfl, rfl, rfl, by decide +kernel, rfl, by decide +kernel, by decide +kernel⟩
theorem bo__law_cut (T : Txt fa fn fx ts w K mg) (f : Addr) : Body0 P w K mg base ["_law_w", "_law_choices", "_law_cell"] "_law_cut" (defBody (top 22)) (defScope (top 22)) f 1 b__law_cut := fun cdv A outer s H E hr => (rs_cons (rs_forR2 PassesOwn.never rfl rfl (T.free 27) (ra_cons re_int (ra_cons re_int ra_nil)) (rgn 2 sc__law_cut.nd) (rs_cons (rs_if (rt_lt (re_sub (rv 2) re_int) (re_callB call_len s_len (by rfl) (T.free 8) (by decide +kernel) (ra_cons (rv 1) ra_nil))) (rs_one (rs_ex (re_call (g__law_shorten T) runDef_ar (hr.mono (by decide)) (by rfl) passE (ra_cons (rv 0) (ra_cons (rv 2) (ra_cons (re_ixA hr.units (rv 1) (re_sub (rv 2) re_int)) ra_nil)))))) rs_nil)
  (rs_one (rs_put hr.units (re_ixA hr.units (rv 0) (re_str (k := 15))) (rv 2) (re_sl (re_ixA hr.units (re_ixA hr.units (rv 0) (re_str (k := 15))) (rv 2)) ro_none (ro_some re_int))))))
  (rs_cons (rs_put hr.units (re_ixA hr.units (rv 0) (re_str (k := 15))) re_int (re_lst (ra_cons re_int ra_nil)))
  (rs_cons (rs_put hr.units (re_ixA hr.units (rv 0) (re_str (k := 15))) re_int (re_lst (ra_cons re_non ra_nil)))
  (rs_cons (rs_put hr.units (re_ixA hr.units (rv 0) (re_str (k := 15))) re_int (re_lst (ra_cons re_non ra_nil)))
  (rs_one (rs_put hr.units (rv 0) (re_str (k := 16)) (re_lst (ra_cons re_dic0 (ra_cons re_dic0 ra_nil)))))))))
theorem g__law_cut (T : Txt fa fn fx ts w K mg) : GF P w K mg base CX0 2 "_law_cut" 2 m__law_cut [] :=
  gf0 (mm := m__law_cut) (by exact Wk.refl) (params := defArgs (top 22)) (body := defBody (top 22)) (scope := defScope (top 22)) (x := "_law_cut") T 29 55 sc__law_cut (b := b__law_cut) (bo__law_cut T) (fun _ _ _ _ _ _ us hl => match us, hl with | [_, _], _ => rfl)
theorem sc__law_wrong : FnScope ["_law_memory", "_law_number", "_law_menu"] ["_law_memory", "_law_number"] (defScope (top 18)) := ⟨rfl, rfl, rfl, by decide +kernel, rfl, by decide +kernel, by decide +kernel⟩
theorem bo__law_wrong (T : Txt fa fn fx ts w K mg) (f : Addr) : Body0 P w K mg base ["_law_memory", "_law_number", "_law_menu"] "_law_wrong" (defBody (top 18)) (defScope (top 18)) f 7 b__law_wrong := fun cdv A outer s H E hr => (rs_cons (rst 2 sc__law_wrong.nd (re_lst (ra_cons (re_tup (ra_cons re_int (ra_cons (re_tup (ra_cons (re_str (k := 6)) (ra_cons re_int ra_nil))) ra_nil))) (ra_cons (re_tup (ra_cons re_int (ra_cons (re_tup (ra_cons (re_str (k := 6)) (ra_cons re_int ra_nil))) ra_nil))) (ra_cons (re_tup (ra_cons re_int (ra_cons (re_tup (ra_cons (re_str (k := 2)) (ra_cons re_int ra_nil))) ra_nil))) (ra_cons (re_tup (ra_cons (re_neg re_int) (ra_cons (re_tup (ra_cons (re_str (k := 7)) ra_nil)) ra_nil))) (ra_cons (re_tup (ra_cons re_int (ra_cons (re_tup (ra_cons (re_str (k := 2)) (ra_cons re_int ra_nil))) ra_nil))) (ra_cons (re_tup (ra_cons re_int (ra_cons (re_tup (ra_cons (re_str (k := 7)) (ra_cons re_int ra_nil))) ra_nil))) ra_nil))))))))
  (rs_cons (rst 2 sc__law_wrong.nd (re_add (rv 2) (re_lst (ra_cons (re_tup (ra_cons re_int (ra_cons (re_tup (ra_cons (re_str (k := 14)) (ra_cons re_int ra_nil))) ra_nil))) (ra_cons (re_tup (ra_cons re_int (ra_cons (re_tup (ra_cons (re_str (k := 3)) (ra_cons re_int ra_nil))) ra_nil))) (ra_cons (re_tup (ra_cons re_int (ra_cons (re_tup (ra_cons (re_str (k := 4)) (ra_cons (re_neg re_int) (ra_cons re_int (ra_cons re_int ra_nil))))) ra_nil))) (ra_cons (re_tup (ra_cons re_int (ra_cons (re_tup ra_nil) ra_nil))) (ra_cons (re_tup (ra_cons re_int (ra_cons (re_tup (ra_cons (re_str (k := 6)) (ra_cons re_int ra_nil))) ra_nil))) ra_nil))))))))
  (rs_cons (rs_if (rt_eqA hr.units (re_mod (rv 1) re_int) re_int) (rs_one (rs_ret (re_call (g__law_do T) runDef_ar (hr.mono (by decide)) (by rfl) passE (ra_cons (rv 0) (ra_cons (re_str (k := 11)) (ra_cons (re_ixA hr.units (re_lst (ra_cons re_int (ra_cons re_int (ra_cons re_int (ra_cons (re_neg re_int) ra_nil))))) (re_mod (re_div (rv 1) re_int) re_int)) (ra_cons re_int ra_nil))))))) rs_nil)
  (rs_cons (rs_if (rt_eqA hr.units (re_mod (rv 1) re_int) re_int) (rs_one (rs_ret (re_call (g__law_do T) runDef_ar (hr.mono (by decide)) (by rfl) passE (ra_cons (rv 0) (ra_cons (re_str (k := 11)) (ra_cons re_int (ra_cons (re_ixA hr.units (re_lst (ra_cons (re_neg re_int) (ra_cons re_non (ra_cons re_bl ra_nil)))) (re_mod (re_div (rv 1) re_int) re_int)) ra_nil))))))) rs_nil)
  (rs_cons (rs_if (rt_eqA hr.units (re_mod (rv 1) re_int) re_int) (rs_one (rs_ret (re_call (g__law_do T) runDef_ar (hr.mono (by decide)) (by rfl) passE (ra_cons (rv 0) (ra_cons (re_str (k := 13)) (ra_cons (re_ixA hr.units (re_lst (ra_cons (re_lst (ra_cons re_int (ra_cons (re_neg re_int) ra_nil))) (ra_cons (re_tup (ra_cons re_int (ra_cons re_int ra_nil))) (ra_cons re_non (ra_cons (re_lst (ra_cons re_bl ra_nil)) ra_nil))))) (re_mod (re_div (rv 1) re_int) re_int)) (ra_cons re_non ra_nil))))))) rs_nil)
  (rs_one (rs_ret (re_call (g__law_do T) runDef_ar (hr.mono (by decide)) (by rfl) passE (ra_cons (rv 0) (ra_cons (re_str (k := 10)) (ra_cons (re_ixA hr.units (re_ixA hr.units (rv 2) (re_mod (re_div (rv 1) re_int) re_int)) re_int) (ra_cons (re_ixA hr.units (re_ixA hr.units (rv 2) (re_mod (re_div (rv 1) re_int) re_int)) re_int) ra_nil))))))))))))
theorem g__law_wrong (T : Txt fa fn fx ts w K mg) : GF P w K mg base CX0 8 "_law_wrong" 2 m__law_wrong [] :=
  gf0 (mm := m__law_wrong) (by exact Wk.refl) (params := defArgs (top 18)) (body := defBody (top 18)) (scope := defScope (top 18)) (x := "_law_wrong") T 30 56 sc__law_wrong (b := b__law_wrong) (bo__law_wrong T) (fun _ _ _ _ _ _ us hl => match us, hl with | [_, _], _ => rfl)
theorem sc__law_step : FnScope ["_law_memory", "_law_w", "_law_number", "_law_pick", "_law_other", "_law_request_here", "_law_due_here", "_law_told", "_law_cell", "_law_choices", "_law_passed", "_law_k"] ["_law_memory", "_law_w", "_law_number", "_law_pick", "_law_other"] (defScope (top 26)) := ⟨rfl, rfl, rfl, by decide +kernel, rfl, by decide +kernel, by decide +kernel⟩
theorem bo__law_step (T : Txt fa fn fx ts w K mg) (f : Addr) : Body0 P w K mg base ["_law_memory", "_law_w", "_law_number", "_law_pick", "_law_other", "_law_request_here", "_law_due_here", "_law_told", "_law_cell", "_law_choices", "_law_passed", "_law_k"] "_law_step" (defBody (top 26)) (defScope (top 26)) f 8 b__law_step := fun cdv A outer s H E hr => (rs_cons (rs_if (rt_eqA hr.units (re_mod (rv 2) re_int) re_int) (rs_one (rs_ret (re_eqA hr.units (re_call (g__law_wrong T) runDef_ar (hr.mono (by decide)) (by rfl) passE (ra_cons (rv 0) (ra_cons (rv 3) ra_nil))) (re_lst (ra_cons (re_str (k := 12)) (ra_cons re_bl ra_nil)))))) rs_nil)
  (rs_cons (rs_if (rt_eqA hr.units (re_mod (rv 2) re_int) re_int) (rs_cons (rst 8 sc__law_step.nd (re_ixA hr.units (re_lst (ra_cons re_int (ra_cons re_int (ra_cons re_int (ra_cons re_int ra_nil))))) (re_mod (rv 3) re_int)))
  (rs_cons (rs_if (rt_isnot (re_call (g__law_do T) runDef_ar (hr.mono (by decide)) (by rfl) passE (ra_cons (rv 0) (ra_cons (re_str (k := 11)) (ra_cons (rv 8) (ra_cons (re_mod (rv 4) re_int) ra_nil))))) re_non) (rs_one (rs_ret re_bl)) rs_nil)
  (rs_cons (rs_ex (re_call (g__law_shorten T) runDef_ar (hr.mono (by decide)) (by rfl) passE (ra_cons (rv 1) (ra_cons (rv 8) (ra_cons (re_mod (rv 4) re_int) ra_nil)))))
  (rs_one (rs_ret re_bl))))) rs_nil)
  (rs_cons (rs_if (rt_bool (rw_and (rt_eqA hr.units (re_mod (rv 2) re_int) re_int) (rw_and1 (rt_eqA hr.units (re_mod (rv 3) re_int) re_int)))) (rs_cons (rs_setLcFR1 (i := 9) (by rfl) sc__law_step.nd (by rfl) (by rfl) (sw_true (by rfl) (by rfl) (by rfl) (by decide +kernel)) (by rfl) (by exact T.free 27) (ra_cons (re_mod (rv 3) re_int) ra_nil) (blkOk_by (own := [("_law_k", 11)]) (by show blkC ["_law_memory", "_law_w", "_law_number", "_law_pick", "_law_other", "_law_request_here", "_law_due_here", "_law_told", "_law_cell", "_law_choices", "_law_passed", "_law_k"] (defScope (top 26)) _ _ = true; decide +kernel)) (by decide) (fun _ _ _ _ _ => (rgn 11 sc__law_step.nd)) (fun _ _ _ _ _ => rts_nil) (fun _ _ _ _ _ => (re_mul (re_mod (re_add (rv 4) (re_mul re_int (rv 11))) re_int) (re_mod (re_add (re_div (rv 3) re_int) (rv 11)) re_int))))
  (rs_cons (rst 10 sc__law_step.nd (re_callTy (CallR.or1 call_list_of (call_listD rfl)) (s_list.or s_listD) (by rfl) (T.free 0) (by decide +kernel) (ra_cons (rv 9) ra_nil)))
  (rs_cons (rst 7 sc__law_step.nd (re_call (g__law_do T) runDef_ar (hr.mono (by decide)) (by rfl) passE (ra_cons (rv 0) (ra_cons (re_str (k := 13)) (ra_cons (rv 10) (ra_cons re_non ra_nil))))))
  (rs_cons (rs_ex (re_call (g__law_cut T) runDef_ar (hr.mono (by decide)) (by rfl) passE (ra_cons (rv 1) (ra_cons (rv 9) ra_nil))))
  (rs_one (rs_ret (re_and (re_is (rv 7) re_non) (re_one (re_eqA hr.units (rv 10) (rv 9)))))))))) rs_nil)
  (rs_cons (rst 5 sc__law_step.nd (re_call (g__law_request T) runDefT_ar (hr.mono (by decide)) (by rfl) passE (ra_cons (rv 1) (ra_cons (re_div (rv 2) re_int) (ra_cons (rv 3) (ra_cons (rv 4) ra_nil))))))
  (rs_cons (rs_put hr.units (rv 1) (re_str (k := 17)) (re_add (re_ixA hr.units (rv 1) (re_str (k := 17))) re_int))
  (rs_cons (rst 6 sc__law_step.nd (re_call (g__law_due T) runDef_ar (hr.mono (by decide)) (by rfl) passE (ra_cons (rv 1) (ra_cons (re_mod (re_div (rv 2) re_int) re_int) (ra_cons (rv 5) ra_nil)))))
  (rs_cons (rst 7 sc__law_step.nd (re_call (g__law_do T) runDef_ar (hr.mono (by decide)) (by rfl) passE (ra_cons (rv 0) (ra_cons (re_str (k := 10)) (ra_cons (re_mod (re_div (rv 2) re_int) re_int) (ra_cons (rv 5) ra_nil))))))
  (rs_one (rs_ret (re_and (re_isi (T := "tuple") (by decide) rfl (T.free 17) (pty T 29 (by decide +kernel)) (rv 7)) (re_and (re_eqA hr.units (re_callB call_len s_len (by rfl) (T.free 8) (by decide +kernel) (ra_cons (rv 7) ra_nil)) re_int) (re_and (re_eqA hr.units (re_ixA hr.units (rv 7) re_int) (re_ixA hr.units (rv 1) (re_str (k := 17)))) (re_one (re_call (g__law_same T) runDefT_ar (hr.mono (by decide)) (by rfl) passE (ra_cons (re_ixA hr.units (rv 7) re_int) (ra_cons (rv 6) ra_nil))))))))))))))))
theorem g__law_step (T : Txt fa fn fx ts w K mg) : GF P w K mg base CX0 9 "_law_step" 5 m__law_step [] :=
  gf0 (mm := m__law_step) (by exact Wk.refl) (params := defArgs (top 26)) (body := defBody (top 26)) (scope := defScope (top 26)) (x := "_law_step") T 31 57 sc__law_step (b := b__law_step) (bo__law_step T) (fun _ _ _ _ _ _ us hl => match us, hl with | [_, _, _, _, _], _ => rfl)
theorem sc__law_at : FnScope ["_law_tape_here", "_law_k"] ["_law_tape_here", "_law_k"] (defScope (top 15)) := ⟨rfl, rfl, rfl, by decide +kernel, rfl, by decide +kernel, by decide +kernel⟩
theorem bo__law_at (T : Txt fa fn fx ts w K mg) (f : Addr) : Body0 P w K mg base ["_law_tape_here", "_law_k"] "_law_at" (defBody (top 15)) (defScope (top 15)) f 0 b__law_at := fun cdv A outer s H E hr => (rs_cons (rs_if (rt_lt (rv 1) (re_callB call_len s_len (by rfl) (T.free 8) (by decide +kernel) (ra_cons (rv 0) ra_nil))) (rs_one (rs_ret (re_ixA hr.units (rv 0) (rv 1)))) rs_nil)
  (rs_one (rs_ret re_int)))
theorem g__law_at (T : Txt fa fn fx ts w K mg) : GF P w K mg base CX0 1 "_law_at" 2 m__law_at [] :=
  gf0 (mm := m__law_at) (by exact Wk.trunc) (params := defArgs (top 15)) (body := defBody (top 15)) (scope := defScope (top 15)) (x := "_law_at") T 32 58 sc__law_at (b := b__law_at) (bo__law_at T) (fun _ _ _ _ _ _ us hl => match us, hl with | [_, _], _ => rfl)
theorem sc_Layout_word : FnScope ["self", "index"] ["self", "index"] (defScope (inClass (top 11) 4)) := ⟨rfl, rfl, rfl, by decide +kernel, rfl, by decide +kernel, by decide +kernel⟩
theorem bo_Layout_word (T : Txt fa fn fx ts w K mg) (f : Addr) : Body0 P w K mg base ["self", "index"] "Layout.word" (defBody (inClass (top 11) 4)) (defScope (inClass (top 11) 4)) f 0 b_Layout_word := fun cdv A outer s H E hr => (rs_one (rs_ret (re_add (re_add re_int (re_mul re_int (re_fld (rv 0) (plOk_by (by decide +kernel))))) (rv 1))))
theorem g_Layout_word (T : Txt fa fn fx ts w K mg) : MF P w K mg base CX0 1 0 "word" 2 m_Layout_word [] :=
  mf0 (mm := m_Layout_word) (by exact Wk.trunc) (params := defArgs (inClass (top 11) 4)) (body := defBody (inClass (top 11) 4)) (scope := defScope (inClass (top 11) 4)) (m := "word") (q := "Layout.word") T 33 59 9 0 sc_Layout_word (b := b_Layout_word) (bo_Layout_word T) (fun _ _ _ _ _ _ us hl => match us, hl with | [_, _], _ => rfl)
theorem sc_Memory_init : FnScope ["self", "layout", "index", "_"] ["self", "layout"] (defScope (inClass (top 12) 0)) := ⟨rfl, rfl, rfl, by decide +kernel, rfl, by decide +kernel, by decide +kernel⟩
theorem bo_Memory_init (T : Txt fa fn fx ts w K mg) (f : Addr) : Body0 P w K mg base ["self", "layout", "index", "_"] "Memory.__init__" (defBody (inClass (top 12) 0)) (defScope (inClass (top 12) 0)) f 2 b_Memory_init := fun cdv A outer s H E hr => (rs_cons (rs_fld (by decide +kernel) (rv 0) (rv 1))
  (rs_cons (rs_fld (by decide +kernel) (rv 0) re_int)
  (rs_cons (rs_fld (by decide +kernel) (rv 0) (re_lst ra_nil))
  (rs_cons (rs_fld (by decide +kernel) (rv 0) (re_lcFR1 (by rfl) sc_Memory_init.nd (by rfl) (by exact T.free 27) (ra_cons (re_meth0 (rv 1) (g_Layout_cells T) runDefT_ar (hr.mono (by decide)) passE) ra_nil) (blkOk_by (own := [("_", 3)]) (by show blkC ["self", "layout", "index", "_"] (defScope (inClass (top 12) 0)) _ _ = true; decide +kernel)) (by decide) (fun _ _ _ _ _ => (rgn 3 sc_Memory_init.nd)) (fun _ _ _ _ _ => rts_nil) (fun _ _ _ _ _ => (re_lst (ra_cons re_non ra_nil)))))
  (rs_cons (rs_put hr.units (re_fld (rv 0) (plOk_by (by decide +kernel))) (re_meth0 (rv 1) (g_Layout_epoch T) runDefT_ar (hr.mono (by decide)) passE) (re_lst (ra_cons re_int ra_nil)))
  (rs_cons (rs_forR1 PassesOwn.never rfl rfl (T.free 27) (ra_cons (re_fld (rv 1) (plOk_by (by decide +kernel))) ra_nil) (rgn 2 sc_Memory_init.nd) (rs_cons (rs_put hr.units (re_fld (rv 0) (plOk_by (by decide +kernel))) (re_meth (rv 1) (g_Layout_word T) runDefT_ar (hr.mono (by decide)) passE (ra_cons (rv 2) ra_nil)) (re_lst (ra_cons (re_meth (rv 1) (g_Layout_record T) runDefT_ar (hr.mono (by decide)) passE (ra_cons (rv 2) ra_nil)) ra_nil)))
  (rs_one (rs_put hr.units (re_fld (rv 0) (plOk_by (by decide +kernel))) (re_meth (rv 1) (g_Layout_record T) runDefT_ar (hr.mono (by decide)) passE (ra_cons (rv 2) ra_nil)) (re_lst (ra_cons (re_tup (ra_cons (re_str (k := 1)) (ra_cons (re_tup ra_nil) ra_nil))) ra_nil))))))
  (rs_one (rs_fld (by decide +kernel) (rv 0) (re_meth0 (rv 0) (g_Memory_no_notes T) runDef_ar (hr.mono (by decide)) passE)))))))))
theorem g_Memory_init (T : Txt fa fn fx ts w K mg) : CF P w K mg base CX0 3 1 2 m_Memory_init [] :=
  cf0 (mm := m_Memory_init) (by exact Wk.refl) (params := defArgs (inClass (top 12) 0)) (body := defBody (inClass (top 12) 0)) (scope := defScope (inClass (top 12) 0)) (q := "Memory.__init__") T 34 60 61 1 (T.clsOk 1 1 2) sc_Memory_init (b := b_Memory_init) (bo_Memory_init T) (fun _ _ _ _ _ _ us hl => match us, hl with | [_, _], _ => rfl)
theorem sc_Layout_init : FnScope ["self", "threads", "words", "records"] ["self", "threads", "words", "records"] (defScope (inClass (top 11) 0)) := ⟨rfl, rfl, rfl, by decide +kernel, rfl, by decide +kernel, by decide +kernel⟩
theorem bo_Layout_init (T : Txt fa fn fx ts w K mg) (f : Addr) : Body0 P w K mg base ["self", "threads", "words", "records"] "Layout.__init__" (defBody (inClass (top 11) 0)) (defScope (inClass (top 11) 0)) f 1 b_Layout_init := fun cdv A outer s H E hr => (rs_cons (rs_if (rt_bool (rw_or (rt_not (rt_truth (re_call (g_is_within T) runDefT_ar (hr.mono (by decide)) (by rfl) passE (ra_cons (rv 1) (ra_cons re_int (ra_cons (rgi T 65) ra_nil)))))) (rw_or1 (rt_not (rt_truth (re_call (g_is_within T) runDefT_ar (hr.mono (by decide)) (by rfl) passE (ra_cons (rv 2) (ra_cons re_int (ra_cons (rgi T 64) ra_nil))))))))) (rs_one rs_never) rs_nil)
  (rs_cons (rs_if (rt_not (rt_truth (re_call (g_is_within T) runDefT_ar (hr.mono (by decide)) (by rfl) passE (ra_cons (rv 3) (ra_cons (rgi T 63) (ra_cons (rgi T 62) ra_nil)))))) (rs_one rs_never) rs_nil)
  (rs_cons (rs_fld (by decide +kernel) (rv 0) (rv 1))
  (rs_cons (rs_fld (by decide +kernel) (rv 0) (rv 2))
  (rs_one (rs_fld (by decide +kernel) (rv 0) (rv 3)))))))
theorem g_Layout_init (T : Txt fa fn fx ts w K mg) : CF P w K mg base CX0 2 0 4 m_Layout_init [] :=
  cf0 (mm := m_Layout_init) (by exact Wk.refl) (params := defArgs (inClass (top 11) 0)) (body := defBody (inClass (top 11) 0)) (scope := defScope (inClass (top 11) 0)) (q := "Layout.__init__") T 35 66 67 0 (T.clsOk 0 9 10) sc_Layout_init (b := b_Layout_init) (bo_Layout_init T) (fun _ _ _ _ _ _ us hl => match us, hl with | [_, _, _, _], _ => rfl)
theorem sc__law_tape : FnScope ["_law_script", "_law_tape_here", "_law_k", "_law_value_here", "_law_step_here"] ["_law_script"] (defScope (top 14)) := ⟨rfl, rfl, rfl, by decide +kernel, rfl, by decide +kernel, by decide +kernel⟩
theorem bo__law_tape (T : Txt fa fn fx ts w K mg) (f : Addr) : Body0 P w K mg base ["_law_script", "_law_tape_here", "_law_k", "_law_value_here", "_law_step_here"] "_law_tape" (defBody (top 14)) (defScope (top 14)) f 0 b__law_tape := fun cdv A outer s H E hr => (rs_cons (rst 1 sc__law_tape.nd (re_lst ra_nil))
  (rs_cons (rs_forR1 PassesOwn.never rfl rfl (T.free 27) (ra_cons (re_callB call_len s_len (by rfl) (T.free 8) (by decide +kernel) (ra_cons (rv 0) ra_nil)) ra_nil) (rgn 2 sc__law_tape.nd) (rs_cons (rst 3 sc__law_tape.nd (re_callB call_abs s_abs (by rfl) (T.free 68) (by decide +kernel) (ra_cons (re_callTy call_int1 s_int (by rfl) (T.free 19) (by decide +kernel) (ra_cons (re_ixA hr.units (rv 0) (rv 2)) ra_nil)) ra_nil)))
  (rs_one (rs_if (rt_ge (rv 3) (re_pow re_int re_int)) (rs_one (rs_forR1 PassesOwn.never rfl rfl (T.free 27) (ra_cons re_int ra_nil) (rgn 4 sc__law_tape.nd) (rs_one (rs_if (rt_gt (rv 3) re_int) (rs_cons (rs_ex (re_app (rv 1) (re_mod (rv 3) re_int)))
  (rs_one (rst 3 sc__law_tape.nd (re_div (rv 3) re_int)))) rs_nil)))) (rs_one (rs_forR1 PassesOwn.never rfl rfl (T.free 27) (ra_cons re_int ra_nil) (rgn 4 sc__law_tape.nd) (rs_cons (rst 3 sc__law_tape.nd (re_mod (re_add (re_add (re_mul (rv 3) re_int) (re_mul re_int (re_add (rv 2) re_int))) (re_mul re_int (rv 4))) re_int))
  (rs_cons (rst 3 sc__law_tape.nd (re_mod (re_mul (rv 3) re_int) re_int))
  (rs_one (rs_ex (re_app (rv 1) (re_mod (re_div (rv 3) re_int) re_int))))))))))))
  (rs_one (rs_ret (rv 1)))))
theorem g__law_tape (T : Txt fa fn fx ts w K mg) : GF P w K mg base CX0 1 "_law_tape" 1 m__law_tape [] :=
  gf0 (mm := m__law_tape) (by exact Wk.trunc) (params := defArgs (top 14)) (body := defBody (top 14)) (scope := defScope (top 14)) (x := "_law_tape") T 36 69 sc__law_tape (b := b__law_tape) (bo__law_tape T) (fun _ _ _ _ _ _ us hl => match us, hl with | [_], _ => rfl)
theorem sc_law : FnScope ["_law_script", "_law_tape_here", "_law_memory", "_law_w", "_law_k", "_law_cell"] ["_law_script"] (defScope (top 27)) := ⟨rfl, rfl, rfl, by decide +kernel, rfl, by decide +kernel, by decide +kernel⟩
theorem bo_law (T : Txt fa fn fx ts w K mg) (f : Addr) : Body0 P w K mg base ["_law_script", "_law_tape_here", "_law_memory", "_law_w", "_law_k", "_law_cell"] "law" (defBody (top 27)) (defScope (top 27)) f 9 b_law := fun cdv A outer s H E hr => (rs_cons (rst 1 sc_law.nd (re_call (g__law_tape T) runDefT_ar (hr.mono (by decide)) (by rfl) passE (ra_cons (rv 0) ra_nil)))
  (rs_cons (rst 2 sc_law.nd (re_make (g_Memory_init T) rfl runDef_ar (hr.mono (by decide)) (by rfl) passE (ra_cons (re_make (g_Layout_init T) rfl runDef_ar (hr.mono (by decide)) (by rfl) passE (ra_cons re_int (ra_cons re_int (ra_cons re_int ra_nil)))) ra_nil)))
  (rs_cons (rst 3 sc_law.nd (re_callTy (CallR.or1 call_dictD (call_dictP rfl)) (s_dict.or s_dictP) (by rfl) (T.free 51) (by decide +kernel) (ra_cons (re_lst (ra_cons (re_tup (ra_cons (re_str (k := 17)) (ra_cons re_int ra_nil))) ra_nil)) ra_nil)))
  (rs_cons (rs_put hr.units (rv 3) (re_str (k := 15)) (re_lcFR1 (by rfl) sc_law.nd (by rfl) (by exact T.free 27) (ra_cons re_int ra_nil) (blkOk_by (own := [("_law_cell", 5)]) (by show blkC ["_law_script", "_law_tape_here", "_law_memory", "_law_w", "_law_k", "_law_cell"] (defScope (top 27)) _ _ = true; decide +kernel)) (by decide) (fun _ _ _ _ _ => (rgn 5 sc_law.nd)) (fun _ _ _ _ _ => rts_nil) (fun _ _ _ _ _ => (re_lst (ra_cons (re_meth (rv 2) (g_Memory_peek T) runDef_ar (hr.mono (by decide)) passE (ra_cons (rv 5) ra_nil)) ra_nil)))))
  (rs_cons (rs_put hr.units (rv 3) (re_str (k := 16)) (re_lst (ra_cons re_dic0 (ra_cons re_dic0 ra_nil))))
  (rs_cons (rs_forR1 PassesOwn.never rfl rfl (T.free 27) (ra_cons (re_callB (call_min2 rfl) s_min (by rfl) (T.free 34) (by decide +kernel) (ra_cons (re_ixA hr.units (re_lst (ra_cons re_int (ra_cons re_int ra_nil))) (re_mod (re_call (g__law_at T) runDefT_ar (hr.mono (by decide)) (by rfl) passE (ra_cons (rv 1) (ra_cons re_int ra_nil))) re_int)) (ra_cons (re_callB (call_max2 rfl) s_max (by rfl) (T.free 33) (by decide +kernel) (ra_cons re_int (ra_cons (re_div (re_sub (re_callB call_len s_len (by rfl) (T.free 8) (by decide +kernel) (ra_cons (rv 1) ra_nil)) re_int) re_int) ra_nil))) ra_nil))) ra_nil) (rgn 4 sc_law.nd) (rs_cons (rs_if (rt_not (rt_truth (re_call (g__law_step T) runDef_ar (hr.mono (by decide)) (by rfl) passE (ra_cons (rv 2) (ra_cons (rv 3) (ra_cons (re_call (g__law_at T) runDefT_ar (hr.mono (by decide)) (by rfl) passE (ra_cons (rv 1) (ra_cons (re_add (re_mul re_int (rv 4)) re_int) ra_nil))) (ra_cons (re_call (g__law_at T) runDefT_ar (hr.mono (by decide)) (by rfl) passE (ra_cons (rv 1) (ra_cons (re_add (re_mul re_int (rv 4)) re_int) ra_nil))) (ra_cons (re_call (g__law_at T) runDefT_ar (hr.mono (by decide)) (by rfl) passE (ra_cons (rv 1) (ra_cons (re_add (re_mul re_int (rv 4)) re_int) ra_nil))) ra_nil)))))))) (rs_one (rs_ret re_bl)) rs_nil)
  (rs_one (rs_if (rt_not (rt_truth (re_call (g__law_looks T) runDef_ar (hr.mono (by decide)) (by rfl) passE (ra_cons (rv 2) (ra_cons (rv 3) ra_nil))))) (rs_one (rs_ret re_bl)) rs_nil))))
  (rs_one (rs_ret (re_eqA hr.units (re_callB call_len s_len (by rfl) (T.free 8) (by decide +kernel) (ra_cons (re_meth0 (rv 2) (g_Memory_log T) runDefT_ar (hr.mono (by decide)) passE) ra_nil)) (re_ixA hr.units (rv 3) (re_str (k := 17))))))))))))
theorem ok_law (T : Txt fa fn fx ts w K mg) {fd : FuncData} (F : FunD K "law" "law" (defArgs (top 27)) (defBody (top 27)) (defScope (top 27)) [] [] (He.ga K "law") fd) : FnOk P w K mg base CX0 10 (He.ga K "law") fd ["_law_script"] (spF K 1 m_law) :=
  fn_ok0 Wk.refl F sc_law (b := b_law) (bo_law T _)
end
end Dk

namespace Dk
open PySem PySem.Spec PyProof.Rows L2 R1
theorem run0 (w : World) : HandSHeadRun.RunEq R (PySem.W.view R.prog [27]) hk ob 4000 loose (w.withFollow "special-get-raises" false) := by
  intro os
  kernel_rfl
theorem run1 (w : World) : HandSHeadRun.RunEq R (PySem.W.view R.prog [27]) hk ob 4000 loose (w.withFollow "special-get-raises" true) := by
  intro os
  kernel_rfl
theorem run (w : World) : HandSHeadRun.RunEq R (PySem.W.view R.prog [27]) hk ob 4000 loose w :=
  PySem.W.byRow2 "special-get-raises" (P := fun w => HandSHeadRun.RunEq R (PySem.W.view R.prog [27]) hk ob 4000 loose w) run0 run1 w
end Dk
open PySem PySem.W PySem.Calls PyProof.Rows
theorem PySem.Challenge.cw_driftkept_k02_whole_memory_that_lasts_holds : PySem.Challenge.rw_driftkept_k02_whole_memory_that_lasts.Holds := by
  w_on; o_law
  refine HandSHeadRun.head_any (r := OpenLaw.row PySem.Challenge.rw_driftkept_k02_whole_memory_that_lasts) (q := view (OpenLaw.row PySem.Challenge.rw_driftkept_k02_whole_memory_that_lasts).prog [27]) (H := Dk.hk) (ob := Dk.ob) (M := 4000) (loose := Dk.loose) (d := HandSHeadRun.topDef (OpenLaw.row PySem.Challenge.rw_driftkept_k02_whole_memory_that_lasts).prog 27) (kwd := []) Dk.ob_eq
    (by kernel_rfl) (fun s => by kernel_rfl) Dk.run (by kernel_rfl) (by kernel_rfl) (by kernel_rfl) (by rfl) (by first | assumption | decide +kernel) (by decide +kernel) ⟨rfl, rfl, rfl, rfl, rfl, by decide +kernel⟩ ?hw ?hc
  case hw => w_witness2
  case hc =>
    refine L2.walk_ofE (l := PySem.Challenge.rw_driftkept_k02_whole_memory_that_lasts) (n := 63) (k := 10) (x := "_law_script") (CX := L2.CX0) rfl (by decide) (by kernel_rfl) ⟨rfl, by decide, by decide⟩ ?F (fun _ _ _ _ z => z)
    intro w mg fa h Y G hmg0
    obtain ⟨K, KX, c⟩ := Y
    have hmg : mg ("law" : PySem.Str) = some (.ref fa) := by
      have e : (HandSHeadRun.topDef (OpenLaw.row PySem.Challenge.rw_driftkept_k02_whole_memory_that_lasts).prog 27).name = ("law" : PySem.Str) := by kernel_rfl
      rw [← e]
      exact hmg0
    have T : R1.Txt Dk.fa Dk.fn Dk.fx Dk.ts w K mg := R1.txt_of c KX G
    obtain ⟨fd, F⟩ := T.says.def_ 37 (d := Dk.d_law) rfl
    have e := hmg.symm.trans (T.glo 70)
    cases e
    have b := L2.FunD.bindsA (ps := ["_law_script"]) F (fun _ _ _ _ _ _ us hl => match us, hl with | [_], _ => rfl)
    exact ⟨K, fd, R1.spF K 1 Dk.m_law, KX, fun s v => b s [v] rfl, fun H a ns hl ho hS => R1.end_of ho hS (Dk.mirror_holds ns hl), fun base _ _ => Dk.ok_law T F⟩

