import PyProof.Rows.All
import Wide.All
import OpenK.AllK
import Wide.FinOn
import HandS.ForMost
import HandS.Defaults
import HandS.HeadHook3
import KE.DataEq
import HandS.TupAny
import HandS.Style
import HandS.IsInst
import HandS.SortInts
import HandS.NoneIn
import HandS.Codes
import HandS.Iter
import HandS.Comp
import HandS.Small
import HandS.SetFor
import HandS.More
import HandS.Head0
import HandS.Head1
import HandS.Head2
import HandS.HeadEnd
import HandS.HeadHook1
import HandS.HeadHook2
import PySem.Challenge.RW_driftkept_k07_stores
set_option Elab.async false
set_option linter.all false
set_option maxRecDepth 100000
set_option maxHeartbeats 0
/-! R1a: values and a store of one's own; how they lie in the heap; what an expression, a test, a statement does, as functions of the store. -/
namespace R1
open PySem PySem.Spec PyProof.Rows L2

/-! ### the words and the classes, by number -/
def words0 : List Str := [("" : Str), ("items" : Str), ("read" : Str), ("write" : Str), ("swap" : Str), ("decide" : Str), ("flush" : Str), ("fence" : Str), ("word" : Str), ("done" : Str), ("access" : Str), ("drift" : Str), ("refused" : Str), ("cut" : Str), ("end" : Str), ("trails" : Str), ("notes" : Str), ("count" : Str), ("failed" : Str), ("call" : Str), ("deed" : Str), ("record" : Str), ("last" : Str), ("help" : Str), ("status" : Str), ("final" : Str), ("x" : Str), ("again" : Str), ("slot" : Str), ("move" : Str), ("stamp" : Str), ("other" : Str)]
def words1 : List Str := [("epoch" : Str), ("out" : Str), ("in" : Str), ("leaving" : Str), ("entering" : Str), ("rows" : Str), ("a" : Str), ("look" : Str), ("put" : Str), ("take" : Str), ("change" : Str), ("puts" : Str), ("answer" : Str), ("full" : Str), ("undone" : Str), ("time" : Str), ("row" : Str), ("missing" : Str), ("twice" : Str), ("enter" : Str), ("do" : Str), ("told" : Str), ("seen" : Str), ("leave" : Str), ("words" : Str), ("slots" : Str), ("mark" : Str), ("odd" : Str), ("lost" : Str), ("history" : Str), ("memory" : Str), ("map" : Str)]
def words : List Str := words0 ++ words1
theorem words_nodup : words.Nodup := by decide +kernel
theorem words_short : ∀ s ∈ words, s.cps.size < 64 := by decide +kernel
/-- the word with a number -/
def nm (k : Nat) : Str := match words[k]? with
  | some s => s
  | none => ⟨Array.replicate (k + 64) 97⟩
theorem nm_inj {j k : Nat} (h : nm j = nm k) : j = k := by
  unfold nm at h
  cases e1 : words[j]? with
  | some s =>
    cases e2 : words[k]? with
    | some t =>
      rw [e1, e2] at h
      have h : s = t := h
      subst h
      obtain ⟨h1, q1⟩ := List.getElem?_eq_some_iff.mp e1
      obtain ⟨h2, q2⟩ := List.getElem?_eq_some_iff.mp e2
      exact (List.getElem_inj words_nodup).mp (q1.trans q2.symm)
    | none =>
      rw [e1, e2] at h
      have h : s = ⟨Array.replicate (k + 64) 97⟩ := h
      have q := words_short s (List.mem_of_getElem? e1)
      rw [h] at q
      simp at q
      omega
  | none =>
    cases e2 : words[k]? with
    | some t =>
      rw [e1, e2] at h
      have h : ⟨Array.replicate (j + 64) 97⟩ = t := h
      have q := words_short t (List.mem_of_getElem? e2)
      rw [← h] at q
      simp at q
      omega
    | none =>
      rw [e1, e2] at h
      have h : (⟨Array.replicate (j + 64) 97⟩ : Str) = ⟨Array.replicate (k + 64) 97⟩ := h
      have q := congrArg (fun s : Str => s.cps.size) h
      simp at q
      exact q
theorem nm_eq (j k : Nat) : decide (nm j = nm k) = decide (j = k) := by
  by_cases h : j = k
  · rw [h, decide_eq_true rfl, decide_eq_true rfl]
  · rw [decide_eq_false h, decide_eq_false fun q => h (nm_inj q)]
/-- the classes: name, fields in the order in which an instance gets them -/
def classes : List (Str × List Str) := [("Layout", ["threads", "words", "records"]),
  ("Memory", ["layout", "count", "rows", "trails", "notes"]),
  ("Shown", ["cell", "mark", "first", "result"]),
  ("Stack", ["machines", "result"]),
  ("Doing", ["address", "without", "status", "entries", "index", "state", "helper", "verdict", "left"]),
  ("Store", ["layout", "thread", "spare", "taken_out", "delayed"]),
  ("Entering", ["epoch_cell", "slot", "state", "epoch"]),
  ("Leaving", ["store", "epoch", "others", "state"]),
  ("Making", ["left"]),
  ("KeyCall", ["store", "call", "number", "without", "layout", "slot", "answer", "witness", "done", "status", "failed", "left", "rows", "records", "seen", "cells", "olds", "state", "wanted"]),
  ("Recovering", ["layout", "left", "slots", "deeds", "statuses", "addresses", "held", "mark", "todo", "state", "wanted"]),
  ("Worker", ["calls", "index", "is_open", "machine", "stack", "first"]),
  ("World", ["layout", "memory", "without", "workers", "rows", "recovery", "stores"])]
def cname (c : Nat) : Str := (classes.getD c ("", [])).1
def cfields (c : Nat) : List Str := (classes.getD c ("", [])).2
theorem fields_ok (c : Nat) : (cfields c).Nodup ∧ (cfields c).length < 100 := by
  have h : ∀ q ∈ classes, q.2.Nodup ∧ q.2.length < 100 := by decide +kernel
  unfold cfields
  rw [List.getD_eq_getElem?_getD]
  cases e : classes[c]? with
  | none => exact ⟨List.nodup_nil, by decide⟩
  | some q => exact h q (List.mem_of_getElem? e)
/-- a key of a dict: an int, a word -/
abbrev Ky := Sum Int Nat
def kyOf : Ky → Key
  | .inl i => .inl i
  | .inr k => .inr (nm k)
theorem kyOf_inj {a b : Ky} (h : kyOf a = kyOf b) : a = b := by
  cases a with
  | inl i =>
    cases b with
    | inl j => rw [Sum.inl.inj h]
    | inr j => cases h
  | inr i =>
    cases b with
    | inl j => cases h
    | inr j => rw [nm_inj (Sum.inr.inj h)]
/-- a value: texts by their number, tuples by value, what may change by its index in the store -/
inductive Val where
  | non | bl (b : Bool) | int (i : Int) | str (k : Nat) | tup (l : List Val) | fro (l : List Val) | obj (i : Nat)
instance : Inhabited Val := ⟨.non⟩
/-- an object: a list, a dict (keys ints and texts), a dict that is walked, an instance of the class c with the values of its fields -/
inductive Ob where
  | lst (xs : List Val) | dic (kvs : List (Ky × Val)) | lok (kvs : List (Ky × Val)) | ins (c : Nat) (vs : List Val)
abbrev Store := List Ob
inductive Res (α : Type) where
  | ok (a : α) (G : Store) | exc (c : Str) (G : Store) | bad
def Res.bind {α β : Type} (r : Res α) (f : α → Store → Res β) : Res β := match r with
  | .ok a G => f a G
  | .exc c G => .exc c G
  | .bad => .bad
abbrev Env1 := List (Option Val)
abbrev EM := Env1 → Store → Res Val
abbrev TM := Env1 → Store → Res Bool
abbrev AM := Env1 → Store → Res (List Val)

/-! ### how a value lies in the heap -/
/-- a list that is only read -/
def SqF (K : PySem.W.Frag) (H : Hp) (a : Addr) (xs : List V) : Prop :=
  (∃ o, H a = some (.frz o (.lst xs))) ∨
    ∃ (o : Obj) (its : Array Value) (n : Nat), K.lookup a = some o ∧ o.cls = .type "list" ∧ o.dict = none ∧ o.data = .seq its n ∧ its.size ≤ sizeLine ∧ Vals xs its.toList
theorem SqF.l {K : PySem.W.Frag} {H : Hp} {a : Addr} {xs : List V} (h : SqF K H a xs) : SqL K H a xs := by
  rcases h with h | h
  · exact .inl (.inr h)
  · exact .inr h
section
variable (K : PySem.W.Frag) (ι : Nat → Addr) (n : Nat) (H : Hp)
mutual
def Rep : Val → V → Prop
  | .non, x => x = .non
  | .bl b, x => x = .bl b
  | .int i, x => x = .int i
  | .str k, x => x = .str (nm k)
  | .tup l, x => ∃ a xs, x = .ref a ∧ SqT K H a xs ∧ Reps l xs
  | .fro l, x => ∃ a xs, x = .ref a ∧ SqF K H a xs ∧ Reps l xs
  | .obj i, x => i < n ∧ x = .ref (ι i)
def Reps : List Val → List V → Prop
  | [], xs => xs = []
  | v :: vs, xs => ∃ y ys, xs = y :: ys ∧ Rep v y ∧ Reps vs ys
end
/-- a dict's pairs -/
def KReps : List (Ky × Val) → List (Key × V) → Prop
  | [], xs => xs = []
  | q :: qs, xs => ∃ y ys, xs = (kyOf q.1, y) :: ys ∧ Rep K ι n H q.2 y ∧ KReps qs ys
/-- an instance's values, by the names of its fields -/
def FReps : List Str → List Val → List (Str × V) → Prop
  | _, [], xs => xs = []
  | [], _ :: _, _ => False
  | f :: fs, v :: vs, xs => ∃ y ys, xs = (f, y) :: ys ∧ Rep K ι n H v y ∧ FReps fs vs ys
/-- a class whose instances are plain -/
structure ClsOk (c : Nat) : Prop where
  cls : Cls K (He.ga K (cname c))
  fld : ∀ f ∈ cfields c, NoAttr K (He.ga K (cname c)) f
def ORep : Ob → Addr → Prop
  | .lst l, a => ∃ xs, H a = some (.lst xs) ∧ Reps K ι n H l xs
  | .dic kvs, a => ∃ kws, H a = some (.dK kws) ∧ KReps K ι n H kvs kws
  | .lok kvs, a => ∃ o kws, H a = some (.frz o (.dK kws)) ∧ KReps K ι n H kvs kws
  | .ins c vs, a => ClsOk K c ∧ ∃ dx gs, H a = some (.ins (He.ga K (cname c)) dx gs) ∧ FReps K ι n H (cfields c) vs gs
end
/-- the store lies in the heap -/
structure Sim (K : PySem.W.Frag) (ι : Nat → Addr) (G : Store) (H : Hp) : Prop where
  inj : ∀ i j, i < G.length → j < G.length → ι i = ι j → i = j
  obj : ∀ i o, G[i]? = some o → ORep K ι G.length H o (ι i)
/-- what a run keeps: the old indices, all tuples -/
structure Ext (K : PySem.W.Frag) (ι : Nat → Addr) (n : Nat) (H : Hp) (ι' : Nat → Addr) (n' : Nat) (H' : Hp) : Prop where
  le : n ≤ n'
  same : ∀ i, i < n → ι' i = ι i
  tup : ∀ a xs, SqT K H a xs → SqT K H' a xs
  fro : ∀ a xs, SqF K H a xs → SqF K H' a xs
  frz : ∀ a o u, H a = some (.frz o u) → H' a = some (.frz o u)
section
variable {K : PySem.W.Frag} {ι ι' ι2 : Nat → Addr} {n n' n2 : Nat} {H H' H2 : Hp}
theorem Ext.refl : Ext K ι n H ι n H := ⟨Nat.le_refl _, fun _ _ => rfl, fun _ _ h => h, fun _ _ h => h, fun _ _ _ h => h⟩
theorem Ext.trans (a : Ext K ι n H ι' n' H') (b : Ext K ι' n' H' ι2 n2 H2) : Ext K ι n H ι2 n2 H2 :=
  ⟨Nat.le_trans a.le b.le, fun i h => (b.same i (Nat.lt_of_lt_of_le h a.le)).trans (a.same i h), fun x xs h => b.tup x xs (a.tup x xs h), fun x xs h => b.fro x xs (a.fro x xs h), fun x o u h => b.frz x o u (a.frz x o u h)⟩
mutual
theorem Rep.ext (e : Ext K ι n H ι' n' H') : ∀ {v : Val} {x : V}, Rep K ι n H v x → Rep K ι' n' H' v x
  | .non, _, h => h
  | .bl _, _, h => h
  | .int _, _, h => h
  | .str _, _, h => h
  | .tup l, _, ⟨a, xs, h1, h2, h3⟩ => ⟨a, xs, h1, e.tup a xs h2, Reps.ext e h3⟩
  | .fro l, _, ⟨a, xs, h1, h2, h3⟩ => ⟨a, xs, h1, e.fro a xs h2, Reps.ext e h3⟩
  | .obj i, _, ⟨h1, h2⟩ => ⟨Nat.lt_of_lt_of_le h1 e.le, by rw [e.same i h1]; exact h2⟩
theorem Reps.ext (e : Ext K ι n H ι' n' H') : ∀ {l : List Val} {xs : List V}, Reps K ι n H l xs → Reps K ι' n' H' l xs
  | [], _, h => h
  | _ :: _, _, ⟨y, ys, h1, h2, h3⟩ => ⟨y, ys, h1, Rep.ext e h2, Reps.ext e h3⟩
end
theorem KReps.ext (e : Ext K ι n H ι' n' H') : ∀ {l : List (Ky × Val)} {xs : List (Key × V)}, KReps K ι n H l xs → KReps K ι' n' H' l xs
  | [], _, h => h
  | _ :: _, _, ⟨y, ys, h1, h2, h3⟩ => ⟨y, ys, h1, Rep.ext e h2, KReps.ext e h3⟩
theorem FReps.ext (e : Ext K ι n H ι' n' H') : ∀ {fs : List Str} {l : List Val} {xs : List (Str × V)}, FReps K ι n H fs l xs → FReps K ι' n' H' fs l xs
  | [], [], _, h => h
  | _ :: _, [], _, h => h
  | [], _ :: _, _, h => h.elim
  | _ :: _, _ :: _, _, ⟨y, ys, h1, h2, h3⟩ => ⟨y, ys, h1, Rep.ext e h2, FReps.ext e h3⟩
theorem Reps.length : ∀ {l : List Val} {xs : List V}, Reps K ι n H l xs → xs.length = l.length
  | [], _, h => by rw [show _ = [] from h]; rfl
  | _ :: _, _, ⟨y, ys, h1, _, h3⟩ => by rw [h1]; exact congrArg Nat.succ (Reps.length h3)
theorem Reps.get : ∀ {l : List Val} {xs : List V} {i : Nat} {v : Val}, Reps K ι n H l xs → l[i]? = some v → ∃ x, xs[i]? = some x ∧ Rep K ι n H v x
  | [], _, _, _, _, e => by simp at e
  | w :: l, _, 0, v, ⟨y, ys, h1, h2, _⟩, e => by
    rw [List.getElem?_cons_zero] at e
    cases e
    exact ⟨y, by rw [h1]; rfl, h2⟩
  | w :: l, _, i + 1, v, ⟨y, ys, h1, _, h3⟩, e => by
    rw [List.getElem?_cons_succ] at e
    obtain ⟨x, e1, e2⟩ := Reps.get h3 e
    exact ⟨x, by rw [h1, List.getElem?_cons_succ]; exact e1, e2⟩
theorem Reps.append : ∀ {l m : List Val} {xs ys : List V}, Reps K ι n H l xs → Reps K ι n H m ys → Reps K ι n H (l ++ m) (xs ++ ys)
  | [], _, _, _, h, h' => by rw [show _ = [] from h]; exact h'
  | _ :: _, _, _, _, ⟨y, ys, h1, h2, h3⟩, h' => by rw [h1]; exact ⟨y, ys ++ _, rfl, h2, Reps.append h3 h'⟩
theorem Reps.one {v : Val} {x : V} (h : Rep K ι n H v x) : Reps K ι n H [v] [x] := ⟨x, [], rfl, h, rfl⟩
theorem Reps.take : ∀ {l : List Val} {xs : List V} (k : Nat), Reps K ι n H l xs → Reps K ι n H (l.take k) (xs.take k)
  | [], _, k, h => by rw [show _ = [] from h]; cases k <;> exact rfl
  | _ :: _, _, 0, _ => rfl
  | _ :: _, _, k + 1, ⟨y, ys, h1, h2, h3⟩ => by rw [h1]; exact ⟨y, ys.take k, rfl, h2, Reps.take k h3⟩
theorem Reps.drop : ∀ {l : List Val} {xs : List V} (k : Nat), Reps K ι n H l xs → Reps K ι n H (l.drop k) (xs.drop k)
  | [], _, k, h => by rw [show _ = [] from h]; cases k <;> exact rfl
  | _ :: _, _, 0, h => h
  | _ :: _, _, k + 1, ⟨y, ys, h1, _, h3⟩ => by rw [h1]; exact Reps.drop k h3
theorem Reps.set {v : Val} {x : V} (r : Rep K ι n H v x) : ∀ {l : List Val} {xs : List V} (k : Nat), Reps K ι n H l xs → Reps K ι n H (l.set k v) (xs.set k x)
  | [], _, k, h => by rw [show _ = [] from h]; cases k <;> exact rfl
  | _ :: _, _, 0, ⟨y, ys, h1, _, h3⟩ => by rw [h1]; exact ⟨x, ys, rfl, r, h3⟩
  | _ :: _, _, k + 1, ⟨y, ys, h1, h2, h3⟩ => by rw [h1]; exact ⟨y, ys.set k x, rfl, h2, Reps.set r k h3⟩
theorem Reps.dropLast : ∀ {l : List Val} {xs : List V}, Reps K ι n H l xs → Reps K ι n H l.dropLast xs.dropLast := fun {l xs} h => by
  rw [List.dropLast_eq_take, List.dropLast_eq_take, h.length]
  exact h.take _
theorem Reps.cons_inv {v : Val} {l : List Val} {xs : List V} (h : Reps K ι n H (v :: l) xs) : ∃ y ys, xs = y :: ys ∧ Rep K ι n H v y ∧ Reps K ι n H l ys := h
theorem KReps.keys : ∀ {l : List (Ky × Val)} {xs : List (Key × V)}, KReps K ι n H l xs → xs.map (·.1) = l.map fun q => kyOf q.1
  | [], _, h => by rw [show _ = [] from h]; rfl
  | q :: _, _, ⟨y, ys, h1, _, h3⟩ => by rw [h1, List.map_cons, List.map_cons, KReps.keys h3]
theorem KReps.length {l : List (Ky × Val)} {xs : List (Key × V)} (h : KReps K ι n H l xs) : xs.length = l.length := by
  have e := congrArg List.length h.keys
  simpa using e
theorem FReps.length : ∀ {fs : List Str} {l : List Val} {xs : List (Str × V)}, FReps K ι n H fs l xs → xs.length = l.length ∧ l.length ≤ fs.length
  | [], [], _, h => by rw [show _ = [] from h]; exact ⟨rfl, Nat.le_refl _⟩
  | _ :: _, [], _, h => by rw [show _ = [] from h]; exact ⟨rfl, Nat.zero_le _⟩
  | [], _ :: _, _, h => h.elim
  | _ :: _, _ :: _, _, ⟨y, ys, h1, _, h3⟩ => by
    rw [h1]
    exact ⟨congrArg Nat.succ (FReps.length h3).1, Nat.succ_le_succ (FReps.length h3).2⟩
theorem FReps.mem : ∀ {fs : List Str} {l : List Val} {xs : List (Str × V)} {g : Str} {y : V}, FReps K ι n H fs l xs → (g, y) ∈ xs → g ∈ fs
  | [], [], _, _, _, h, m => by rw [show _ = [] from h] at m; cases m
  | _ :: _, [], _, _, _, h, m => by rw [show _ = [] from h] at m; cases m
  | [], _ :: _, _, _, _, h, _ => h.elim
  | f :: fs, _ :: _, _, g, z, ⟨y, ys, h1, _, h3⟩, m => by
    rw [h1] at m
    rcases List.mem_cons.mp m with e | m
    · cases e
      exact List.mem_cons_self ..
    · exact List.mem_cons_of_mem _ (FReps.mem h3 m)
/-- the field at the place p -/
theorem FReps.look : ∀ {fs : List Str} {l : List Val} {xs : List (Str × V)} {p : Nat} {f : Str} {v : Val}, FReps K ι n H fs l xs → fs.Nodup → fs[p]? = some f → l[p]? = some v → ∃ y, xs.lookup f = some y ∧ Rep K ι n H v y
  | _, [], _, _, _, _, _, _, _, e => by simp at e
  | [], _ :: _, _, _, _, _, h, _, _, _ => h.elim
  | g :: fs, w :: l, _, 0, f, v, ⟨y, ys, h1, h2, h3⟩, _, e1, e2 => by
    rw [List.getElem?_cons_zero] at e1 e2
    cases e1
    cases e2
    rw [h1]
    exact ⟨y, by rw [List.lookup_cons, beq_self_eq_true], h2⟩
  | g :: fs, w :: l, _, p + 1, f, v, ⟨y, ys, h1, h2, h3⟩, nd, e1, e2 => by
    rw [List.getElem?_cons_succ] at e1 e2
    obtain ⟨n1, n2⟩ := List.nodup_cons.mp nd
    have ne : (f == g) = false := beq_false_of_ne fun q => n1 (by rw [← q]; exact List.mem_of_getElem? e1)
    obtain ⟨x, q1, q2⟩ := FReps.look h3 n2 e1 e2
    rw [h1]
    exact ⟨x, by rw [List.lookup_cons, ne]; exact q1, q2⟩
theorem FReps.none : ∀ {fs : List Str} {l : List Val} {xs : List (Str × V)} {f : Str}, FReps K ι n H fs l xs → ¬ f ∈ fs → xs.lookup f = none
  | [], [], _, _, h, _ => by rw [show _ = [] from h]; rfl
  | _ :: _, [], _, _, h, _ => by rw [show _ = [] from h]; rfl
  | [], _ :: _, _, _, h, _ => h.elim
  | g :: fs, w :: l, _, f, ⟨y, ys, h1, h2, h3⟩, nf => by
    have ne : (f == g) = false := beq_false_of_ne fun q => nf (by rw [q]; exact List.mem_cons_self ..)
    rw [h1, List.lookup_cons, ne]
    exact FReps.none h3 fun q => nf (List.mem_cons_of_mem _ q)
/-- the field at the place p is given a value -/
theorem FReps.put {v : Val} {y : V} (r : Rep K ι n H v y) : ∀ {fs : List Str} {l : List Val} {xs : List (Str × V)} {p : Nat} {f : Str}, FReps K ι n H fs l xs → fs.Nodup → fs[p]? = some f → p ≤ l.length →
    FReps K ι n H fs (if p < l.length then l.set p v else l ++ [v]) (putF f y xs)
  | [], [], _, p, f, _, _, e, _ => by simp at e
  | [], _ :: _, _, _, _, h, _, _, _ => h.elim
  | g :: fs, [], _, p, f, h, _, e, hp => by
    have h0 : p = 0 := Nat.le_zero.mp hp
    subst h0
    rw [List.getElem?_cons_zero] at e
    cases e
    rw [show _ = [] from h, if_neg (show ¬ 0 < ([] : List Val).length from Nat.lt_irrefl _)]
    exact ⟨y, [], rfl, r, by cases fs <;> exact rfl⟩
  | g :: fs, w :: l, _, 0, f, ⟨z, zs, h1, h2, h3⟩, nd, e, hp => by
    rw [List.getElem?_cons_zero] at e
    cases e
    rw [h1, if_pos (show 0 < (w :: l).length from Nat.succ_pos _)]
    refine ⟨y, zs, ?_, r, h3⟩
    show (if g = g then _ else _) = _
    rw [if_pos rfl]
  | g :: fs, w :: l, _, p + 1, f, ⟨z, zs, h1, h2, h3⟩, nd, e, hp => by
    rw [List.getElem?_cons_succ] at e
    obtain ⟨n1, n2⟩ := List.nodup_cons.mp nd
    have ne : ¬ g = f := fun q => n1 (by rw [q]; exact List.mem_of_getElem? e)
    have ih := FReps.put r h3 n2 e (Nat.le_of_succ_le_succ hp)
    rw [h1]
    have e2 : putF f y ((g, z) :: zs) = (g, z) :: putF f y zs := by
      show (if g = f then _ else (g, z) :: putF f y zs) = _
      rw [if_neg ne]
    rw [e2]
    by_cases hq : p < l.length
    · rw [if_pos hq] at ih
      rw [if_pos (show p + 1 < (w :: l).length from Nat.succ_lt_succ hq)]
      exact ⟨z, _, rfl, h2, ih⟩
    · rw [if_neg hq] at ih
      rw [if_neg (show ¬ p + 1 < (w :: l).length from fun q => hq (Nat.lt_of_succ_lt_succ q))]
      exact ⟨z, _, rfl, h2, ih⟩
theorem ORep.ext {o : Ob} {a : Addr} (e : Ext K ι n H ι' n' H') (hl : ∀ u, H a = some u → H' a = some u) (h : ORep K ι n H o a) : ORep K ι' n' H' o a := by
  cases o with
  | lst l =>
    obtain ⟨xs, h1, h2⟩ := h
    exact ⟨xs, hl _ h1, h2.ext e⟩
  | dic kvs =>
    obtain ⟨xs, h1, h2⟩ := h
    exact ⟨xs, hl _ h1, h2.ext e⟩
  | lok kvs =>
    obtain ⟨o, xs, h1, h2⟩ := h
    exact ⟨o, xs, hl _ h1, h2.ext e⟩
  | ins c fs =>
    obtain ⟨k, dx, xs, h1, h2⟩ := h
    exact ⟨k, dx, xs, hl _ h1, h2.ext e⟩
/-- what an object of the store may stand as -/
def Mutl : HO → Prop
  | .lst _ => True
  | .dK _ => True
  | .ins _ _ _ => True
  | _ => False
def Ob.free : Ob → Bool
  | .lok _ => false
  | _ => true
theorem ORep.there {o : Ob} {a : Addr} (h : ORep K ι n H o a) : ∃ u, H a = some u ∧ (o.free = true → Mutl u) := by
  cases o with
  | lst l =>
    obtain ⟨xs, h1, h2⟩ := h
    exact ⟨_, h1, fun _ => trivial⟩
  | dic kvs =>
    obtain ⟨xs, h1, h2⟩ := h
    exact ⟨_, h1, fun _ => trivial⟩
  | lok kvs =>
    obtain ⟨o, xs, h1, h2⟩ := h
    exact ⟨_, h1, fun h => by cases h⟩
  | ins c fs =>
    obtain ⟨k, dx, xs, h1, h2⟩ := h
    exact ⟨_, h1, fun _ => trivial⟩
end

/-! ### one step of the heap -/
section
variable {K : PySem.W.Frag} {ι : Nat → Addr} {n : Nat} {G : Store} {H : Hp}
/-- p is new or holds what may change -/
def Free (H : Hp) (p : Addr) : Prop := ∀ u, H p = some u → Mutl u
theorem Free.none {p : Addr} (h : H p = none) : Free H p := fun u e => by rw [h] at e; cases e
theorem Free.some {p : Addr} {u : HO} (h : H p = some u) (m : Mutl u) : Free H p := fun v e => by rw [h] at e; cases e; exact m
theorem SqT.updT {a p : Addr} {o : HO} {xs : List V} (hp : Free H p) (h : SqT K H a xs) : SqT K (L2.upd H p o) a xs := by
  rcases h with h | h
  · refine .inl ?_
    rcases h with h | ⟨z, h⟩
    · have ne : a ≠ p := fun e => by rw [e] at h; exact hp _ h
      exact .inl (by rw [upd_ne ne]; exact h)
    · have ne : a ≠ p := fun e => by rw [e] at h; exact hp _ h
      exact .inr ⟨z, by rw [upd_ne ne]; exact h⟩
  · exact .inr h
theorem SqF.updF {a p : Addr} {o : HO} {xs : List V} (hp : Free H p) (h : SqF K H a xs) : SqF K (L2.upd H p o) a xs := by
  rcases h with ⟨z, h⟩ | h
  · have ne : a ≠ p := fun e => by rw [e] at h; exact hp _ h
    exact .inl ⟨z, by rw [upd_ne ne]; exact h⟩
  · exact .inr h
theorem frz_upd {p : Addr} {o : HO} (hp : Free H p) : ∀ a z u, H a = some (.frz z u) → (upd H p o) a = some (.frz z u) := fun a z u h => by
  have ne : a ≠ p := fun e => by rw [e] at h; exact hp _ h
  rw [upd_ne ne]
  exact h
theorem Ext.updE {p : Addr} {o : HO} (hp : Free H p) : Ext K ι n H ι n (upd H p o) := ⟨Nat.le_refl _, fun _ _ => rfl, fun _ _ h => SqT.updT hp h, fun _ _ h => SqF.updF hp h, frz_upd hp⟩
/-- something new that the store does not hold -/
theorem Sim.junk {p : Addr} {u : HO} (S : Sim K ι G H) (hp : H p = none) : Sim K ι G (upd H p u) :=
  ⟨S.inj, fun i o e => (S.obj i o e).ext (Ext.updE (.none hp)) fun v hv => by rw [upd_ne (ne_of_none hv hp)]; exact hv⟩
def into (ι : Nat → Addr) (n : Nat) (p : Addr) : Nat → Addr := fun i => if i = n then p else ι i
theorem into_eq {p : Addr} : into ι n p n = p := if_pos rfl
theorem into_lt {p : Addr} {i : Nat} (h : i < n) : into ι n p i = ι i := if_neg (Nat.ne_of_lt h)
/-- a new object of the store -/
theorem Ext.push {p : Addr} {u : HO} (hp : H p = none) : Ext K ι n H (into ι n p) (n + 1) (upd H p u) :=
  ⟨Nat.le_succ _, fun _ h => into_lt h, fun _ _ h => SqT.updT (.none hp) h, fun _ _ h => SqF.updF (.none hp) h, frz_upd (.none hp)⟩
theorem Sim.push {p : Addr} {u : HO} {o : Ob} (S : Sim K ι G H) (hp : H p = none) (ho : ORep K (into ι G.length p) (G.length + 1) (upd H p u) o p) : Sim K (into ι G.length p) (G ++ [o]) (upd H p u) := by
  have there : ∀ i, i < G.length → ∃ v, H (ι i) = some v := fun i hi => by
    obtain ⟨v, h, _⟩ := (S.obj i _ (List.getElem?_eq_getElem hi)).there
    exact ⟨v, h⟩
  have hne : ∀ i, i < G.length → ι i ≠ p := fun i hi e => by
    obtain ⟨v, h⟩ := there i hi
    rw [e, hp] at h
    cases h
  refine ⟨fun i j hi hj e => ?_, fun i o' e => ?_⟩
  · rw [List.length_append, List.length_singleton] at hi hj
    by_cases h1 : i = G.length
    · by_cases h2 : j = G.length
      · rw [h1, h2]
      · have hj' : j < G.length := by omega
        rw [h1, into_eq, into_lt hj'] at e
        exact absurd e.symm (hne j hj')
    · have hi' : i < G.length := by omega
      by_cases h2 : j = G.length
      · rw [h2, into_eq, into_lt hi'] at e
        exact absurd e (hne i hi')
      · have hj' : j < G.length := by omega
        rw [into_lt hi', into_lt hj'] at e
        exact S.inj i j hi' hj' e
  · rw [List.length_append, List.length_singleton]
    by_cases h1 : i < G.length
    · rw [List.getElem?_append_left h1] at e
      rw [into_lt h1]
      exact (S.obj i o' e).ext (Ext.push hp) fun v hv => by rw [upd_ne (hne i h1)]; exact hv
    · have h2 : i = G.length := by
        have := (List.getElem?_eq_some_iff.mp e).1
        rw [List.length_append, List.length_singleton] at this
        omega
      subst h2
      rw [List.getElem?_append_right (Nat.le_refl _), Nat.sub_self] at e
      cases e
      rw [into_eq]
      exact ho
/-- an object is changed -/
theorem Sim.set {i : Nat} {u : HO} {o o' : Ob} (S : Sim K ι G H) (hi : G[i]? = some o') (hf : o'.free = true) (ho : ORep K ι G.length (upd H (ι i) u) o (ι i)) : Sim K ι (G.set i o) (upd H (ι i) u) ∧ Ext K ι G.length H ι (G.set i o).length (upd H (ι i) u) := by
  obtain ⟨v, hv, mv⟩ := (S.obj i o' hi).there
  have hlt : i < G.length := (List.getElem?_eq_some_iff.mp hi).1
  have x : Ext K ι G.length H ι G.length (upd H (ι i) u) := Ext.updE (.some hv (mv hf))
  refine ⟨⟨fun a b ha hb => by rw [List.length_set] at ha hb; exact S.inj a b ha hb, fun j w e => ?_⟩, by rw [List.length_set]; exact x⟩
  rw [List.length_set]
  by_cases hj : j = i
  · subst hj
    rw [List.getElem?_set_self hlt] at e
    cases e
    exact ho
  · rw [List.getElem?_set_ne (Ne.symm hj)] at e
    have hjl : j < G.length := (List.getElem?_eq_some_iff.mp e).1
    exact (S.obj j w e).ext x fun z hz => by rw [upd_ne fun q => hj (S.inj j i hjl hlt q)]; exact hz
end

/-! ### the frame's names -/
section
variable (K : PySem.W.Frag) (ι : Nat → Addr) (n : Nat) (H : Hp)
def Slots : Env1 → L2.St → Prop
  | [], σ => σ = []
  | v :: ρ, σ => ∃ y ys, σ = y :: ys ∧ (∀ w, v = some w → ∃ x, y = some x ∧ Rep K ι n H w x) ∧ Slots ρ ys
end
section
variable {K : PySem.W.Frag} {ι ι' : Nat → Addr} {n n' : Nat} {H H' : Hp}
theorem Slots.ext (e : Ext K ι n H ι' n' H') : ∀ {ρ : Env1} {σ : L2.St}, Slots K ι n H ρ σ → Slots K ι' n' H' ρ σ
  | [], _, h => h
  | _ :: _, _, ⟨y, ys, h1, h2, h3⟩ => ⟨y, ys, h1, fun w hw => let ⟨x, e1, e2⟩ := h2 w hw; ⟨x, e1, e2.ext e⟩, Slots.ext e h3⟩
theorem Slots.get : ∀ {ρ : Env1} {σ : L2.St} {i : Nat} {v : Val}, Slots K ι n H ρ σ → ρ[i]? = some (some v) → ∃ x, σ[i]? = some (some x) ∧ Rep K ι n H v x
  | [], _, _, _, _, e => by simp at e
  | w :: l, _, 0, v, ⟨y, ys, h1, h2, _⟩, e => by
    rw [List.getElem?_cons_zero] at e
    obtain ⟨x, e1, e2⟩ := h2 v (Option.some.inj e)
    exact ⟨x, by rw [h1, e1]; rfl, e2⟩
  | w :: l, _, i + 1, v, ⟨y, ys, h1, _, h3⟩, e => by
    rw [List.getElem?_cons_succ] at e
    obtain ⟨x, e1, e2⟩ := Slots.get h3 e
    exact ⟨x, by rw [h1, List.getElem?_cons_succ]; exact e1, e2⟩
theorem Slots.set {v : Val} {x : V} (r : Rep K ι n H v x) : ∀ {ρ : Env1} {σ : L2.St} (i : Nat), Slots K ι n H ρ σ → Slots K ι n H (ρ.set i (some v)) (σ.set i (some x))
  | [], _, i, h => by rw [show _ = [] from h]; cases i <;> exact rfl
  | _ :: _, _, 0, ⟨y, ys, h1, _, h3⟩ => by rw [h1]; exact ⟨some x, ys, rfl, fun w hw => ⟨x, rfl, by cases hw; exact r⟩, h3⟩
  | _ :: _, _, i + 1, ⟨y, ys, h1, h2, h3⟩ => by rw [h1]; exact ⟨y, ys.set i (some x), rfl, h2, Slots.set r i h3⟩
/-- forgetting a name -/
theorem Slots.drop : ∀ {ρ : Env1} {σ : L2.St} (i : Nat) (z : Option V), Slots K ι n H ρ σ → Slots K ι n H (ρ.set i none) (σ.set i z)
  | [], _, i, _, h => by rw [show _ = [] from h]; cases i <;> exact rfl
  | _ :: _, _, 0, z, ⟨y, ys, h1, _, h3⟩ => by rw [h1]; exact ⟨z, ys, rfl, fun w hw => (by cases hw), h3⟩
  | _ :: _, _, i + 1, z, ⟨y, ys, h1, h2, h3⟩ => by rw [h1]; exact ⟨y, ys.set i z, rfl, h2, Slots.drop i z h3⟩
theorem Slots.length : ∀ {ρ : Env1} {σ : L2.St}, Slots K ι n H ρ σ → σ.length = ρ.length
  | [], _, h => by rw [show _ = [] from h]; rfl
  | _ :: _, _, ⟨y, ys, h1, _, h3⟩ => by rw [h1]; exact congrArg Nat.succ (Slots.length h3)
end

/-! ### what is wanted behind a run -/
section
variable (K : PySem.W.Frag) (E : XK) (ι : Nat → Addr) (n : Nat) (H : Hp)
def Post {α : Type} (r : Res α) (k : (Nat → Addr) → Store → Hp → α → Prop) : Prop := match r with
  | .ok v G' => ∀ ι' H', Ext K ι n H ι' G'.length H' → Sim K ι' G' H' → k ι' G' H' v
  | .exc c G' => ∀ ι' H', Ext K ι n H ι' G'.length H' → Sim K ι' G' H' → E (.ref (He.ga K c)) none H'
  | .bad => False
end
section
variable {K : PySem.W.Frag} {E : XK} {ι ι' : Nat → Addr} {n n' : Nat} {H H' : Hp} {α β : Type}
theorem Post.mono {r : Res α} {k k' : (Nat → Addr) → Store → Hp → α → Prop} (h : Post K E ι n H r k) (m : ∀ ι' G' H' v, Ext K ι n H ι' G'.length H' → Sim K ι' G' H' → k ι' G' H' v → k' ι' G' H' v) : Post K E ι n H r k' := by
  cases r with
  | ok v G' => exact fun ι' H' e s => m ι' G' H' v e s (h ι' H' e s)
  | exc c G' => exact h
  | bad => exact h
theorem Post.ext {r : Res α} {k : (Nat → Addr) → Store → Hp → α → Prop} (x : Ext K ι n H ι' n' H') (h : Post K E ι n H r k) : Post K E ι' n' H' r k := by
  cases r with
  | ok v G' => exact fun ι2 H2 e s => h ι2 H2 (x.trans e) s
  | exc c G' => exact fun ι2 H2 e s => h ι2 H2 (x.trans e) s
  | bad => exact h
theorem Post.bind {r : Res α} {f : α → Store → Res β} {k : (Nat → Addr) → Store → Hp → β → Prop} (h : Post K E ι n H (r.bind f) k) : Post K E ι n H r fun ι' G' H' v => Post K E ι' G'.length H' (f v G') k := by
  cases r with
  | ok v G' => exact fun ι' H' e s => Post.ext e h
  | exc c G' => exact h
  | bad => exact h
theorem Post.here {v : α} {G : Store} {k : (Nat → Addr) → Store → Hp → α → Prop} (S : Sim K ι G H) (h : Post K E ι G.length H (.ok v G) k) : k ι G H v := h ι H .refl S
end
/-- the reading of an expression, a test, arguments -/
def tE (K : PySem.W.Frag) (E : XK) (m : EM) : TE := fun σ H Q => ∃ ι G ρ, Sim K ι G H ∧ Slots K ι G.length H ρ σ ∧ Post K E ι G.length H (m ρ G) fun ι' G' H' v => ∀ x, Rep K ι' G'.length H' v x → Q x H'
def tT (K : PySem.W.Frag) (E : XK) (m : TM) : TT := fun σ H Q => ∃ ι G ρ, Sim K ι G H ∧ Slots K ι G.length H ρ σ ∧ Post K E ι G.length H (m ρ G) fun ι' G' H' b => Q b H'
def tA (K : PySem.W.Frag) (E : XK) (m : AM) : TA := fun σ H Q => ∃ ι G ρ, Sim K ι G H ∧ Slots K ι G.length H ρ σ ∧ Post K E ι G.length H (m ρ G) fun ι' G' H' vs => ∀ xs, Reps K ι' G'.length H' vs xs → Q xs H'
abbrev RE (X : Cx) (E : XK) (e : Expr) (m : EM) : Prop := PE X e (tE X.K E m)
abbrev RT (X : Cx) (E : XK) (e : Expr) (m : TM) : Prop := PT X e (tT X.K E m)
abbrev RW (X : Cx) (E : XK) (e : Expr) (m : TM) : Prop := PW X e (tT X.K E m)
abbrev RA (X : Cx) (E : XK) (es : List Expr) (m : AM) : Prop := PA X es (tA X.K E m)

/-! ### weaker readings -/
section
variable {X : Cx} {e : Expr} {es : List Expr} {st : Stmt} {sts : List Stmt}
theorem pe_weak {t t' : TE} (h : PE X e t) (w : ∀ σ H Q, t' σ H Q → t σ H Q) : PE X e t' := ⟨fun pins s σ H Q I q => h.run pins s σ H Q I (w σ H Q q)⟩
theorem pt_weak {t t' : TT} (h : PT X e t) (w : ∀ σ H Q, t' σ H Q → t σ H Q) : PT X e t' := ⟨fun pins s σ H Q I q => h.run pins s σ H Q I (w σ H Q q)⟩
theorem pw_weak {t t' : TT} (h : PW X e t) (w : ∀ σ H Q, t' σ H Q → t σ H Q) : PW X e t' := ⟨fun wh pins s σ H Q I q => h.run wh pins s σ H Q I (w σ H Q q)⟩
theorem pa_weak {t t' : TA} (h : PA X es t) (w : ∀ σ H Q, t' σ H Q → t σ H Q) : PA X es t' := ⟨fun pos pins s σ H Q I q => h.run pos pins s σ H Q I (w σ H Q q)⟩
theorem ps_weak {t t' : TS} (h : PS X st t) (w : ∀ D σ H, t' D σ H → t D σ H) : PS X st t' := ⟨fun pins s σ H D I q => h.run pins s σ H D I (w D σ H q)⟩
theorem pss_weak {t t' : TS} (h : PSs X sts t) (w : ∀ D σ H, t' D σ H → t D σ H) : PSs X sts t' := ⟨fun pins s σ H D I q => h.run pins s σ H D I (w D σ H q)⟩
end

/-! ### names, constants, two-place operators -/
def eVar (i : Nat) : EM := fun ρ G => match ρ[i]? with
  | some (some v) => .ok v G
  | _ => .bad
def eC (v : Val) : EM := fun _ G => .ok v G
/-- an operation on two values -/
abbrev F2 := Val → Val → Store → Res Val
def eOp (f : F2) (a b : EM) : EM := fun ρ G => (a ρ G).bind fun v G1 => (b ρ G1).bind fun u G2 => f v u G2
/-- the rule r on the heap says what f says on the store -/
def OpS (K : PySem.W.Frag) (E : XK) (r : R2) (f : F2) : Prop := ∀ (ι : Nat → Addr) (G : Store) (H : Hp) (v u : Val) (x y : V) (Q : VK), Sim K ι G H → Rep K ι G.length H v x → Rep K ι G.length H u y →
  Post K E ι G.length H (f v u G) (fun ι' G' H' w => ∀ z, Rep K ι' G'.length H' w z → Q z H') → r x y H Q
section
variable {X : Cx} {E : XK} {a b : Expr} {ma mb : EM} {pos : Pos}
theorem re_var {i : Nat} {x : Str} (hN : X.N[i]? = some x) (hv : Vis X.env.scope x) (hd : (x == ("__debug__" : Str)) = false := by decide) (hcd : (x == ("__classdict__" : Str)) = false := by decide) : RE X E (.Name x pos) (eVar i) := by
  refine pe_weak (pe_var hN hv hd hcd) fun σ H Q ⟨ι, G, ρ, S, sl, p⟩ => ?_
  unfold eVar at p
  cases e : ρ[i]? with
  | none => rw [e] at p; exact p.elim
  | some o =>
    cases o with
    | none => rw [e] at p; exact p.elim
    | some v =>
      rw [e] at p
      obtain ⟨x, e1, r⟩ := sl.get e
      exact ⟨x, e1, p.here S x r⟩
theorem re_int {i j} : RE X E (.Constant (.int i) j pos) (eC (.int i)) := pe_weak pe_int fun σ H Q ⟨ι, G, ρ, S, sl, p⟩ => p.here S _ rfl
theorem re_bl {i j} : RE X E (.Constant (.bool i) j pos) (eC (.bl i)) := pe_weak pe_bl fun σ H Q ⟨ι, G, ρ, S, sl, p⟩ => p.here S _ rfl
theorem re_non {j} : RE X E (.Constant .none j pos) (eC .non) := pe_weak pe_non fun σ H Q ⟨ι, G, ρ, S, sl, p⟩ => p.here S _ rfl
theorem re_str {i j} {k : Nat} (h : nm k = i := by decide +kernel) : RE X E (.Constant (.str i) j pos) (eC (.str k)) := pe_weak pe_str fun σ H Q ⟨ι, G, ρ, S, sl, p⟩ => p.here S _ (by rw [← h]; exact rfl)
/-- two expressions, one behind the other -/
theorem two {σ : L2.St} {H : Hp} {f : Val → Val → Store → Res Val} {R : V → V → Hp → Prop} {Q : VK} (h : tE X.K E (eOp f ma mb) σ H Q)
    (hr : ∀ ι G H' v u x y, Sim X.K ι G H' → Rep X.K ι G.length H' v x → Rep X.K ι G.length H' u y → Post X.K E ι G.length H' (f v u G) (fun ι' G' H' w => ∀ z, Rep X.K ι' G'.length H' w z → Q z H') → R x y H') :
    tE X.K E ma σ H fun x H1 => tE X.K E mb σ H1 fun y H2 => R x y H2 := by
  obtain ⟨ι, G, ρ, S, sl, p⟩ := h
  refine ⟨ι, G, ρ, S, sl, (Post.bind p).mono fun ι1 G1 H1 v x1 S1 p1 x rx => ⟨ι1, G1, ρ, S1, sl.ext x1, (Post.bind p1).mono fun ι2 G2 H2 u x2 S2 p2 y ry => hr ι2 G2 H2 v u x y S2 (rx.ext x2) ry p2⟩⟩
theorem re_op {op : Operator} {r : R2} {f : F2} (ho : OpR X (binaryOp op) r) (hs : OpS X.K E r f) (ha : RE X E a ma) (hb : RE X E b mb) : RE X E (.BinOp a op b pos) (eOp f ma mb) :=
  pe_weak (pe_op ho ha hb) fun σ H Q h => two h fun ι G H' v u x y S rx ry p => hs ι G H' v u x y Q S rx ry p
theorem re_cmp {op : CmpOp} {r : R2} {f : F2} (ho : OpR X (compareOp op) r) (hs : OpS X.K E r f) (ha : RE X E a ma) (hb : RE X E b mb) (hm : behindInMarks op b = false) : RE X E (.Compare a [op] [b] pos) (eOp f ma mb) :=
  pe_weak (pe_cmpR ho ha hb hm) fun σ H Q h => two h fun ι G H' v u x y S rx ry p => hs ι G H' v u x y Q S rx ry p
def orF (f g : F2) : F2 := fun v u G => match f v u G with
  | .bad => g v u G
  | r => r
theorem OpS.or {r r' : R2} {f g : F2} (h : OpS X.K E r f) (h' : OpS X.K E r' g) : OpS X.K E (fun x y H Q => r x y H Q ∨ r' x y H Q) (orF f g) := by
  intro ι G H v u x y Q S rx ry p
  unfold orF at p
  cases e : f v u G with
  | bad =>
    rw [e] at p
    exact .inr (h' ι G H v u x y Q S rx ry p)
  | ok w G' =>
    rw [e] at p
    exact .inl (h ι G H v u x y Q S rx ry (by rw [e]; exact p))
  | exc c G' =>
    rw [e] at p
    exact .inl (h ι G H v u x y Q S rx ry (by rw [e]; exact p))
end
end R1

/-! R1b: operators on values: sums, products, equality, order, membership. -/
namespace R1
open PySem PySem.Spec PyProof.Rows L2

/-! ### ints -/
def fI (c : Int → Int → Bool) (g : Int → Int → Val) : F2 := fun v u G => match v, u with
  | .int i, .int j => if c i j = true then .ok (g i j) G else .bad
  | _, _ => .bad
/-- a plain value as it lies -/
def pv1 : Val → V
  | .bl b => .bl b
  | .int i => .int i
  | .str s => .str (nm s)
  | _ => .non
def plain1 : Val → Bool
  | .non => true
  | .bl _ => true
  | .int _ => true
  | .str _ => true
  | _ => false
section
variable {K : PySem.W.Frag} {E : XK} {ι : Nat → Addr} {n : Nat} {H : Hp}
theorem rep_plain {v : Val} {x : V} (h : plain1 v = true) : Rep K ι n H v x ↔ x = pv1 v := by
  cases v <;> first | rfl | cases h | exact Iff.rfl
theorem fI_inv {c : Int → Int → Bool} {g : Int → Int → Val} {v u : Val} {G : Store} {k : (Nat → Addr) → Store → Hp → Val → Prop} (h : Post K E ι n H (fI c g v u G) k) : ∃ i j, v = .int i ∧ u = .int j ∧ c i j = true ∧ Post K E ι n H (.ok (g i j) G) k := by
  unfold fI at h
  cases v with
  | int i =>
    cases u with
    | int j =>
      by_cases e : c i j = true
      · exact ⟨i, j, rfl, rfl, e, by simpa only [if_pos e] using h⟩
      · have h2 : Post K E ι n H (if c i j = true then Res.ok (g i j) G else Res.bad) k := h
        rw [if_neg e] at h2
        exact h2.elim
    | _ => exact h.elim
  | _ => exact h.elim
theorem opS_rI {C : Int → Int → Prop} {c : Int → Int → Bool} {g : Int → Int → V} {g' : Int → Int → Val} (hc : ∀ i j, c i j = true → C i j) (hg : ∀ i j, plain1 (g' i j) = true ∧ g i j = pv1 (g' i j)) : OpS K E (rI C g) (fI c g') := by
  intro ι G H v u x y Q S rx ry p
  obtain ⟨i, j, rfl, rfl, e, p⟩ := fI_inv p
  refine ⟨i, j, rx, ry, hc i j e, p.here S _ ?_⟩
  rw [(hg i j).2]
  exact (rep_plain (hg i j).1).mpr rfl
theorem opS_rI0 {g : Int → Int → V} {g' : Int → Int → Val} (hg : ∀ i j, plain1 (g' i j) = true ∧ g i j = pv1 (g' i j)) : OpS K E (rI0 g) (fI (fun _ _ => true) g') := by
  intro ι G H v u x y Q S rx ry p
  obtain ⟨i, j, rfl, rfl, e, p⟩ := fI_inv p
  refine ⟨i, j, rx, ry, p.here S _ ?_⟩
  rw [(hg i j).2]
  exact (rep_plain (hg i j).1).mpr rfl
end
abbrev tr2 : Int → Int → Bool := fun _ _ => true
def fSub : F2 := fI tr2 fun i j => .int (i - j)
def inRng (i : Int) : Bool := decide (-(2 ^ 64) < i) && decide (i < 2 ^ 64)
def fMulI : F2 := fI (fun i j => inRng i || inRng j) fun i j => .int (i * j)
def fDiv : F2 := fI (fun _ j => decide (0 < j) && decide (j < 1073741824)) fun i j => .int (i / j)
def fMod : F2 := fI (fun _ j => decide (0 < j)) fun i j => .int (i % j)
def fPow : F2 := fI (fun i j => decide (0 ≤ j) && (decide (j ≤ 1000000) && decide (i.natAbs < 2 ^ 64))) fun i j => .int (i ^ j.toNat)
def fAddI : F2 := fI tr2 fun i j => .int (i + j)
def fLt : F2 := fI tr2 fun i j => .bl (decide (i < j))
def fLe : F2 := fI tr2 fun i j => .bl (decide (i ≤ j))
def fGt : F2 := fI tr2 fun i j => .bl (decide (j < i))
def fGe : F2 := fI tr2 fun i j => .bl (decide (j ≤ i))
section
variable {K : PySem.W.Frag} {E : XK}
theorem s_sub : OpS K E (rI0 fun i j => .int (i - j)) fSub := opS_rI0 fun _ _ => ⟨rfl, rfl⟩
theorem s_addI : OpS K E (rI0 fun i j => .int (i + j)) fAddI := opS_rI0 fun _ _ => ⟨rfl, rfl⟩
theorem s_mulI : OpS K E (rI CMul fun i j => .int (i * j)) fMulI := opS_rI (fun i j h => by
  rcases (Bool.or_eq_true _ _).mp h with h | h
  · obtain ⟨a, b⟩ := Bool.and_eq_true_iff.mp h
    exact .inl ⟨of_decide_eq_true a, of_decide_eq_true b⟩
  · obtain ⟨a, b⟩ := Bool.and_eq_true_iff.mp h
    exact .inr ⟨of_decide_eq_true a, of_decide_eq_true b⟩) fun _ _ => ⟨rfl, rfl⟩
theorem s_div : OpS K E (rI CDiv fun i j => .int (i / j)) fDiv := opS_rI (fun i j h => by
  obtain ⟨a, b⟩ := Bool.and_eq_true_iff.mp h
  exact ⟨of_decide_eq_true a, of_decide_eq_true b⟩) fun _ _ => ⟨rfl, rfl⟩
theorem s_mod : OpS K E (rI (fun _ j => 0 < j) fun i j => .int (i % j)) fMod := opS_rI (fun i j h => of_decide_eq_true h) fun _ _ => ⟨rfl, rfl⟩
theorem s_pow : OpS K E (rI CPow fun i j => .int (i ^ j.toNat)) fPow := opS_rI (fun i j h => by
  obtain ⟨a, b⟩ := Bool.and_eq_true_iff.mp h
  obtain ⟨b, c⟩ := Bool.and_eq_true_iff.mp b
  exact ⟨of_decide_eq_true a, of_decide_eq_true b, of_decide_eq_true c⟩) fun _ _ => ⟨rfl, rfl⟩
theorem s_lt : OpS K E (rI0 fun i j => .bl (decide (i < j))) fLt := opS_rI0 fun _ _ => ⟨rfl, rfl⟩
theorem s_le : OpS K E (rI0 fun i j => .bl (decide (i ≤ j))) fLe := opS_rI0 fun _ _ => ⟨rfl, rfl⟩
theorem s_gt : OpS K E (rI0 fun i j => .bl (decide (j < i))) fGt := opS_rI0 fun _ _ => ⟨rfl, rfl⟩
theorem s_ge : OpS K E (rI0 fun i j => .bl (decide (j ≤ i))) fGe := opS_rI0 fun _ _ => ⟨rfl, rfl⟩
end

/-! ### lists, tuples: +, * -/
/-- a new object -/
def alloc (o : Ob) (G : Store) : Res Val := .ok (.obj G.length) (G ++ [o])
section
variable {K : PySem.W.Frag} {E : XK} {ι : Nat → Addr} {n : Nat} {G : Store} {H : Hp}
/-- a new list -/
theorem post_lst {l : List Val} {xs : List V} {Q : VK} (S : Sim K ι G H) (r : Reps K ι G.length H l xs) (p : Post K E ι G.length H (alloc (.lst l) G) (fun ι' G' H' w => ∀ z, Rep K ι' G'.length H' w z → Q z H')) :
    ∀ q, H q = none → Q (.ref q) (L2.upd H q (.lst xs)) := fun q hq => by
  have e : Ext K ι G.length H (into ι G.length q) (G ++ [Ob.lst l]).length (L2.upd H q (.lst xs)) := by
    rw [List.length_append, List.length_singleton]
    exact Ext.push hq
  have e1 : Ext K ι G.length H (into ι G.length q) (G.length + 1) (L2.upd H q (.lst xs)) := Ext.push hq
  refine p (into ι G.length q) _ e (S.push hq ⟨xs, upd_same, r.ext e1⟩) _ ⟨?_, ?_⟩
  · rw [List.length_append, List.length_singleton]
    exact Nat.lt_succ_self _
  · rw [into_eq]
/-- a new tuple -/
theorem post_tup {l : List Val} {xs : List V} {Q : VK} (S : Sim K ι G H) (r : Reps K ι G.length H l xs) (p : Post K E ι G.length H (.ok (.tup l) G) (fun ι' G' H' w => ∀ z, Rep K ι' G'.length H' w z → Q z H')) :
    ∀ q, H q = none → Q (.ref q) (L2.upd H q (.tup xs)) := fun q hq => by
  have e : Ext K ι G.length H ι G.length (L2.upd H q (.tup xs)) := Ext.updE (.none hq)
  exact p ι _ e (S.junk hq) _ ⟨q, xs, rfl, .of upd_same, r.ext e⟩
theorem Sim.lst {i : Nat} {l : List Val} (S : Sim K ι G H) (h : G[i]? = some (.lst l)) : ∃ xs, H (ι i) = some (.lst xs) ∧ Reps K ι G.length H l xs := S.obj i _ h
theorem Sim.dic {i : Nat} {l : List (Ky × Val)} (S : Sim K ι G H) (h : G[i]? = some (.dic l)) : ∃ xs, H (ι i) = some (.dK xs) ∧ KReps K ι G.length H l xs := S.obj i _ h
theorem Sim.ins {i : Nat} {c : Nat} {l : List Val} (S : Sim K ι G H) (h : G[i]? = some (.ins c l)) : ClsOk K c ∧ ∃ dx xs, H (ι i) = some (.ins (He.ga K (cname c)) dx xs) ∧ FReps K ι G.length H (cfields c) l xs := S.obj i _ h
end
def fCat : F2 := fun v u G => match v, u with
  | .obj i, .obj j => (match G[i]?, G[j]? with
    | some (.lst a), some (.lst b) => if a.length + b.length ≤ sizeLine then alloc (.lst (a ++ b)) G else .bad
    | _, _ => .bad)
  | _, _ => .bad
def fCatT : F2 := fun v u G => match v, u with
  | .tup a, .tup b => if a.length + b.length ≤ sizeLine then .ok (.tup (a ++ b)) G else .bad
  | _, _ => .bad
def fRep : F2 := fun v u G => match v, u with
  | .obj i, .int k => (match G[i]? with
    | some (.lst a) => if -(2 ^ 63) ≤ k ∧ k < 2 ^ 63 ∧ a.length * k.toNat ≤ sizeLine then alloc (.lst (List.replicate k.toNat a).flatten) G else .bad
    | _ => .bad)
  | _, _ => .bad
section
variable {K : PySem.W.Frag} {E : XK} {ι : Nat → Addr} {n : Nat} {H : Hp}
theorem Reps.replicate {l : List Val} {xs : List V} (r : Reps K ι n H l xs) : ∀ k : Nat, Reps K ι n H (List.replicate k l).flatten (List.replicate k xs).flatten
  | 0 => rfl
  | k + 1 => by
    rw [List.replicate_succ, List.replicate_succ, List.flatten_cons, List.flatten_cons]
    exact r.append (Reps.replicate r k)
theorem s_cat : OpS K E rCat fCat := by
  intro ι G H v u x y Q S rx ry p
  unfold fCat at p
  cases v with
  | obj i =>
    cases u with
    | obj j =>
      cases e1 : G[i]? with
      | none => simp only [e1] at p; exact p.elim
      | some o =>
        cases e2 : G[j]? with
        | none => simp only [e1, e2] at p; cases o <;> exact p.elim
        | some o2 =>
          simp only [e1, e2] at p
          cases o with
          | lst a =>
            cases o2 with
            | lst b =>
              have p2 : Post K E ι G.length H (if a.length + b.length ≤ sizeLine then alloc (.lst (a ++ b)) G else .bad) (fun ι' G' H' w => ∀ z, Rep K ι' G'.length H' w z → Q z H') := p
              by_cases hl : a.length + b.length ≤ sizeLine
              · rw [if_pos hl] at p2
                obtain ⟨xs, h1, r1⟩ := S.lst e1
                obtain ⟨ys, h2, r2⟩ := S.lst e2
                exact ⟨ι i, ι j, xs, ys, rx.2, ry.2, h1, h2, by rw [r1.length, r2.length]; exact hl, post_lst S (r1.append r2) p2⟩
              · rw [if_neg hl] at p2
                exact p2.elim
            | _ => exact p.elim
          | _ => cases o2 <;> exact p.elim
    | _ => exact p.elim
  | _ => exact p.elim
theorem s_catT : OpS K E (rCatA K) fCatT := by
  intro ι G H v u x y Q S rx ry p
  unfold fCatT at p
  cases v with
  | tup a =>
    cases u with
    | tup b =>
      have p2 : Post K E ι G.length H (if a.length + b.length ≤ sizeLine then .ok (.tup (a ++ b)) G else .bad) (fun ι' G' H' w => ∀ z, Rep K ι' G'.length H' w z → Q z H') := p
      by_cases hl : a.length + b.length ≤ sizeLine
      · rw [if_pos hl] at p2
        obtain ⟨p1, xs, ex, h1, r1⟩ := rx
        obtain ⟨q1, ys, ey, h2, r2⟩ := ry
        refine ⟨p1, q1, xs, ys, ex, ey, h1, h2, by rw [r1.length, r2.length]; exact hl, fun e0 => ?_, fun e0 e1 => ?_, fun e0 e1 => post_tup S (r1.append r2) p2⟩
        · have : a = [] := List.eq_nil_of_length_eq_zero (by rw [← r1.length, e0]; rfl)
          subst this
          exact p2.here S _ ⟨q1, ys, rfl, h2, r2⟩
        · have : b = [] := List.eq_nil_of_length_eq_zero (by rw [← r2.length, e1]; rfl)
          subst this
          rw [List.append_nil] at p2
          exact p2.here S _ ⟨p1, xs, rfl, h1, r1⟩
      · rw [if_neg hl] at p2
        exact p2.elim
    | _ => exact p.elim
  | _ => exact p.elim
theorem s_rep : OpS K E rRep fRep := by
  intro ι G H v u x y Q S rx ry p
  unfold fRep at p
  cases v with
  | obj i =>
    cases u with
    | int k =>
      cases e1 : G[i]? with
      | none => simp only [e1] at p; exact p.elim
      | some o =>
        simp only [e1] at p
        cases o with
        | lst a =>
          have p2 : Post K E ι G.length H (if -(2 ^ 63) ≤ k ∧ k < 2 ^ 63 ∧ a.length * k.toNat ≤ sizeLine then alloc (.lst (List.replicate k.toNat a).flatten) G else .bad) (fun ι' G' H' w => ∀ z, Rep K ι' G'.length H' w z → Q z H') := p
          by_cases hl : -(2 ^ 63) ≤ k ∧ k < 2 ^ 63 ∧ a.length * k.toNat ≤ sizeLine
          · rw [if_pos hl] at p2
            obtain ⟨xs, h1, r1⟩ := S.lst e1
            exact ⟨ι i, k, xs, rx.2, ry, h1, hl.1, hl.2.1, by rw [r1.length]; exact hl.2.2, post_lst S (r1.replicate _) p2⟩
          · rw [if_neg hl] at p2
            exact p2.elim
        | _ => exact p.elim
    | _ => exact p.elim
  | _ => exact p.elim
end
/-- + of ints, lists, tuples; * of ints, of a list -/
def fAdd : F2 := orF fAddI (orF fCat fCatT)
def fMul : F2 := orF fMulI fRep
section
variable {X : Cx} {E : XK} {a b : Expr} {ma mb : EM} {pos : Pos}
theorem re_add (ha : RE X E a ma) (hb : RE X E b mb) : RE X E (.BinOp a .Add b pos) (eOp fAdd ma mb) := re_op (op_add.or (op_cat.or op_catA)) (s_addI.or (s_cat.or s_catT)) ha hb
theorem re_sub (ha : RE X E a ma) (hb : RE X E b mb) : RE X E (.BinOp a .Sub b pos) (eOp fSub ma mb) := re_op op_sub s_sub ha hb
theorem re_mul (ha : RE X E a ma) (hb : RE X E b mb) : RE X E (.BinOp a .Mult b pos) (eOp fMul ma mb) := re_op (op_mul.or op_rep) (s_mulI.or s_rep) ha hb
theorem re_div (ha : RE X E a ma) (hb : RE X E b mb) : RE X E (.BinOp a .FloorDiv b pos) (eOp fDiv ma mb) := re_op op_fdiv s_div ha hb
theorem re_mod (ha : RE X E a ma) (hb : RE X E b mb) : RE X E (.BinOp a .Mod b pos) (eOp fMod ma mb) := re_op op_mod s_mod ha hb
theorem re_pow (ha : RE X E a ma) (hb : RE X E b mb) : RE X E (.BinOp a .Pow b pos) (eOp fPow ma mb) := re_op op_pow s_pow ha hb
theorem re_lt (ha : RE X E a ma) (hb : RE X E b mb) : RE X E (.Compare a [.Lt] [b] pos) (eOp fLt ma mb) := re_cmp op_lt s_lt ha hb (nomark _)
theorem re_le (ha : RE X E a ma) (hb : RE X E b mb) : RE X E (.Compare a [.LtE] [b] pos) (eOp fLe ma mb) := re_cmp op_le s_le ha hb (nomark _)
theorem re_gt (ha : RE X E a ma) (hb : RE X E b mb) : RE X E (.Compare a [.Gt] [b] pos) (eOp fGt ma mb) := re_cmp op_gt s_gt ha hb (nomark _)
theorem re_ge (ha : RE X E a ma) (hb : RE X E b mb) : RE X E (.Compare a [.GtE] [b] pos) (eOp fGe ma mb) := re_cmp op_ge s_ge ha hb (nomark _)
end

/-! ### is -/
def isNon : Val → Bool
  | .non => true
  | _ => false
def fIsN : F2 := fun v u G => match u with
  | .non => .ok (.bl (isNon v)) G
  | _ => .bad
def fNotN : F2 := fun v u G => match u with
  | .non => .ok (.bl (!isNon v)) G
  | _ => .bad
def fIsB : F2 := fun v u G => match v, u with
  | .bl a, .bl b => .ok (.bl (a == b)) G
  | _, _ => .bad
def fNotB : F2 := fun v u G => match v, u with
  | .bl a, .bl b => .ok (.bl (!(a == b))) G
  | _, _ => .bad
section
variable {K : PySem.W.Frag} {E : XK} {ι : Nat → Addr} {n : Nat} {H : Hp}
theorem rep_non {v : Val} {x : V} (h : Rep K ι n H v x) : decide (x = .non) = isNon v := by
  cases v with
  | non => rw [show x = .non from h]; rfl
  | bl b => rw [show x = .bl b from h]; rfl
  | int i => rw [show x = .int i from h]; rfl
  | str s => rw [show x = .str (nm s) from h]; rfl
  | tup l => obtain ⟨a, xs, e, _⟩ := h; rw [e]; rfl
  | fro l => obtain ⟨a, xs, e, _⟩ := h; rw [e]; rfl
  | obj i => rw [h.2]; rfl
theorem s_isN : OpS K E (fun x y H Q => y = .non ∧ Q (.bl (decide (x = .non))) H) fIsN := by
  intro ι G H v u x y Q S rx ry p
  unfold fIsN at p
  cases u with
  | non =>
    refine ⟨ry, ?_⟩
    rw [rep_non rx]
    exact p.here S _ rfl
  | _ => exact p.elim
theorem s_notN : OpS K E (fun x y H Q => y = .non ∧ Q (.bl (!decide (x = .non))) H) fNotN := by
  intro ι G H v u x y Q S rx ry p
  unfold fNotN at p
  cases u with
  | non =>
    refine ⟨ry, ?_⟩
    rw [rep_non rx]
    exact p.here S _ rfl
  | _ => exact p.elim
theorem s_isB : OpS K E rIsB fIsB := by
  intro ι G H v u x y Q S rx ry p
  unfold fIsB at p
  cases v with
  | bl a =>
    cases u with
    | bl b =>
      refine ⟨a, b, rx, ry, ?_⟩
      have q := p.here S _ rfl
      rw [show decide (a = b) = (a == b) by cases a <;> cases b <;> rfl]
      exact q
    | _ => exact p.elim
  | _ => exact p.elim
theorem s_notB : OpS K E rNotB fNotB := by
  intro ι G H v u x y Q S rx ry p
  unfold fNotB at p
  cases v with
  | bl a =>
    cases u with
    | bl b =>
      refine ⟨a, b, rx, ry, ?_⟩
      have q := p.here S _ rfl
      rw [show decide (a = b) = (a == b) by cases a <;> cases b <;> rfl]
      exact q
    | _ => exact p.elim
  | _ => exact p.elim
end
def fIs : F2 := orF fIsN fIsB
def fIsNot : F2 := orF fNotN fNotB
section
variable {X : Cx} {E : XK} {a b : Expr} {ma mb : EM} {pos : Pos}
theorem re_is (ha : RE X E a ma) (hb : RE X E b mb) : RE X E (.Compare a [.Is] [b] pos) (eOp fIs ma mb) := re_cmp (op_isN.or op_isBl) (s_isN.or s_isB) ha hb (nomark _)
theorem re_isnot (ha : RE X E a ma) (hb : RE X E b mb) : RE X E (.Compare a [.IsNot] [b] pos) (eOp fIsNot ma mb) := re_cmp (op_notN.or op_notBl) (s_notN.or s_notB) ha hb (nomark _)
end

/-! ### data: ==, !=, in, not in -/
def optAll {α β : Type} (f : α → Option β) : List α → Option (List β)
  | [] => some []
  | a :: l => match f a, optAll f l with
    | some b, some r => some (b :: r)
    | _, _ => none
def toD (G : Store) : Nat → Val → Option PyData
  | _, .non => some .none
  | _, .bl b => some (.bool b)
  | _, .int i => some (.int i)
  | _, .str s => some (.str (nm s))
  | 0, .tup _ => none
  | 0, .fro _ => none
  | 0, .obj _ => none
  | k + 1, .tup l => (optAll (toD G k) l).map .tuple
  | k + 1, .fro l => (optAll (toD G k) l).map .list
  | k + 1, .obj i => match G[i]? with
    | some (.lst l) => (optAll (toD G k) l).map .list
    | _ => none
/-- the depth that is looked at -/
def dEq : Nat := 40
def fEq : F2 := fun v u G => match toD G dEq v, toD G dEq u with
  | some d, some e => .ok (.bl (PyData.eqv d e)) G
  | _, _ => .bad
def fNe : F2 := fun v u G => match toD G dEq v, toD G dEq u with
  | some d, some e => .ok (.bl (!PyData.eqv d e)) G
  | _, _ => .bad
def itemsOf (G : Store) : Val → Option (List Val)
  | .tup l => some l
  | .fro l => some l
  | .obj i => match G[i]? with
    | some (.lst l) => some l
    | _ => none
  | _ => none
def fIn (neg : Bool) : F2 := fun v u G => match toD G dEq v, (itemsOf G u).bind (optAll (toD G dEq)) with
  | some d, some es => .ok (.bl (neg != (es.any fun y => PyData.eqv y d))) G
  | _, _ => .bad
section
variable {K : PySem.W.Frag} {E : XK} {ι : Nat → Addr} {G : Store} {H : Hp}
theorem optAll_cons {α β : Type} {f : α → Option β} {a : α} {l : List α} {r : List β} (h : optAll f (a :: l) = some r) : ∃ b s, f a = some b ∧ optAll f l = some s ∧ r = b :: s := by
  unfold optAll at h
  cases e1 : f a with
  | none => rw [e1] at h; cases h
  | some b =>
    cases e2 : optAll f l with
    | none => rw [e1, e2] at h; cases h
    | some s => rw [e1, e2] at h; exact ⟨b, s, rfl, rfl, (Option.some.inj h).symm⟩
mutual
theorem depth_all : ∀ (ds : List PyData) (k : Nat), (∀ d ∈ ds, d.depth ≤ k) → PyData.depthAll ds ≤ k
  | [], k, _ => Nat.zero_le _
  | d :: ds, k, h => by
    show max d.depth (PyData.depthAll ds) ≤ k
    exact Nat.max_le.mpr ⟨h d (List.mem_cons_self ..), depth_all ds k fun e he => h e (List.mem_cons_of_mem _ he)⟩
end
theorem plain_all : ∀ (ds : List PyData), (∀ d ∈ ds, d.plain = true) → PyData.plainAll ds = true
  | [], _ => rfl
  | d :: ds, h => by
    show (d.plain && PyData.plainAll ds) = true
    rw [h d (List.mem_cons_self ..), plain_all ds fun e he => h e (List.mem_cons_of_mem _ he)]
    rfl
theorem optAll_mem {α β : Type} {f : α → Option β} : ∀ {l : List α} {r : List β}, optAll f l = some r → ∀ b ∈ r, ∃ a ∈ l, f a = some b
  | [], r, h, b, hb => by cases h; cases hb
  | a :: l, r, h, b, hb => by
    obtain ⟨c, s, e1, e2, rfl⟩ := optAll_cons h
    rcases List.mem_cons.mp hb with rfl | hb
    · exact ⟨a, List.mem_cons_self .., e1⟩
    · obtain ⟨z, hz, ez⟩ := optAll_mem e2 b hb
      exact ⟨z, List.mem_cons_of_mem _ hz, ez⟩
theorem toD_ok : ∀ (k : Nat) (v : Val) (d : PyData), toD G k v = some d → d.plain = true ∧ d.depth ≤ k
  | k, .non, d, h => by cases k <;> (cases h; exact ⟨rfl, Nat.zero_le _⟩)
  | k, .bl b, d, h => by cases k <;> (cases h; exact ⟨rfl, Nat.zero_le _⟩)
  | k, .int i, d, h => by cases k <;> (cases h; exact ⟨rfl, Nat.zero_le _⟩)
  | k, .str s, d, h => by cases k <;> (cases h; exact ⟨rfl, Nat.zero_le _⟩)
  | 0, .tup _, d, h => by cases h
  | 0, .fro _, d, h => by cases h
  | 0, .obj _, d, h => by cases h
  | k + 1, .tup l, d, h => by
    have h1 : (optAll (toD G k) l).map PyData.tuple = some d := h
    cases e : optAll (toD G k) l with
    | none => rw [e] at h1; cases h1
    | some ds =>
      rw [e] at h1
      cases h1
      have m := optAll_mem e
      refine ⟨plain_all ds fun x hx => ?_, ?_⟩
      · obtain ⟨a, _, ea⟩ := m x hx
        exact (toD_ok k a x ea).1
      · show PyData.depthAll ds + 1 ≤ k + 1
        exact Nat.succ_le_succ (depth_all ds k fun x hx => by
          obtain ⟨a, _, ea⟩ := m x hx
          exact (toD_ok k a x ea).2)
  | k + 1, .fro l, d, h => by
    have h1 : (optAll (toD G k) l).map PyData.list = some d := h
    cases e : optAll (toD G k) l with
    | none => rw [e] at h1; cases h1
    | some ds =>
      rw [e] at h1
      cases h1
      have m := optAll_mem e
      refine ⟨plain_all ds fun x hx => ?_, ?_⟩
      · obtain ⟨a, _, ea⟩ := m x hx
        exact (toD_ok k a x ea).1
      · show PyData.depthAll ds + 1 ≤ k + 1
        exact Nat.succ_le_succ (depth_all ds k fun x hx => by
          obtain ⟨a, _, ea⟩ := m x hx
          exact (toD_ok k a x ea).2)
  | k + 1, .obj i, d, h => by
    have h0 : (match G[i]? with | some (.lst l) => (optAll (toD G k) l).map PyData.list | _ => none) = some d := h
    cases e0 : G[i]? with
    | none => rw [e0] at h0; cases h0
    | some o =>
      rw [e0] at h0
      cases o with
      | lst l =>
        have h1 : (optAll (toD G k) l).map PyData.list = some d := h0
        cases e : optAll (toD G k) l with
        | none => rw [e] at h1; cases h1
        | some ds =>
          rw [e] at h1
          cases h1
          have m := optAll_mem e
          refine ⟨plain_all ds fun x hx => ?_, ?_⟩
          · obtain ⟨a, _, ea⟩ := m x hx
            exact (toD_ok k a x ea).1
          · show PyData.depthAll ds + 1 ≤ k + 1
            exact Nat.succ_le_succ (depth_all ds k fun x hx => by
              obtain ⟨a, _, ea⟩ := m x hx
              exact (toD_ok k a x ea).2)
      | _ => cases h0
theorem dp_all (k : Nat) (ih : ∀ v x d, Rep K ι G.length H v x → toD G k v = some d → Dp K H x d) : ∀ (l : List Val) (xs : List V) (ds : List PyData), Reps K ι G.length H l xs → optAll (toD G k) l = some ds → DpAll K H xs ds
  | [], xs, ds, r, e => by
    rw [show xs = [] from r]
    cases e
    exact .nil
  | v :: l, xs, ds, ⟨y, ys, h1, h2, h3⟩, e => by
    obtain ⟨b, s, e1, e2, rfl⟩ := optAll_cons e
    rw [h1]
    exact .cons (ih v y b h2 e1) (dp_all k ih l ys s h3 e2)
theorem dp_of (S : Sim K ι G H) : ∀ (k : Nat) (v : Val) (x : V) (d : PyData), Rep K ι G.length H v x → toD G k v = some d → Dp K H x d
  | k, .non, x, d, r, h => by rw [show x = .non from r]; cases k <;> (cases h; exact .non)
  | k, .bl b, x, d, r, h => by rw [show x = .bl b from r]; cases k <;> (cases h; exact .bl b)
  | k, .int i, x, d, r, h => by rw [show x = .int i from r]; cases k <;> (cases h; exact .int i)
  | k, .str s, x, d, r, h => by rw [show x = .str (nm s) from r]; cases k <;> (cases h; exact .str (nm s))
  | 0, .tup _, x, d, r, h => by cases h
  | 0, .fro _, x, d, r, h => by cases h
  | 0, .obj _, x, d, r, h => by cases h
  | k + 1, .tup l, x, d, ⟨a, xs, e1, h1, r⟩, h => by
    have h2 : (optAll (toD G k) l).map PyData.tuple = some d := h
    cases e : optAll (toD G k) l with
    | none => rw [e] at h2; cases h2
    | some ds =>
      rw [e] at h2
      cases h2
      rw [e1]
      exact .tup h1 (dp_all k (fun v x d r q => dp_of S k v x d r q) l xs ds r e)
  | k + 1, .fro l, x, d, ⟨a, xs, e1, h1, r⟩, h => by
    have h2 : (optAll (toD G k) l).map PyData.list = some d := h
    cases e : optAll (toD G k) l with
    | none => rw [e] at h2; cases h2
    | some ds =>
      rw [e] at h2
      cases h2
      rw [e1]
      exact .lst h1.l (dp_all k (fun v x d r q => dp_of S k v x d r q) l xs ds r e)
  | k + 1, .obj i, x, d, r, h => by
    have h0 : (match G[i]? with | some (.lst l) => (optAll (toD G k) l).map PyData.list | _ => none) = some d := h
    cases e0 : G[i]? with
    | none => rw [e0] at h0; cases h0
    | some o =>
      rw [e0] at h0
      cases o with
      | lst l =>
        have h2 : (optAll (toD G k) l).map PyData.list = some d := h0
        cases e : optAll (toD G k) l with
        | none => rw [e] at h2; cases h2
        | some ds =>
          rw [e] at h2
          cases h2
          obtain ⟨xs, h1, rr⟩ := S.lst e0
          rw [r.2]
          exact .lst (.of h1) (dp_all k (fun v x d r q => dp_of S k v x d r q) l xs ds rr e)
      | _ => cases h0
end
def rEqP (K : PySem.W.Frag) : R2 := fun x y H Q => ∃ d e, Dp K H x d ∧ Dp K H y e ∧ d.plain = true ∧ e.plain = true ∧ d.depth ≤ dEq ∧ Q (.bl (PyData.eqv d e)) H
def rNeP (K : PySem.W.Frag) : R2 := fun x y H Q => ∃ d e, Dp K H x d ∧ Dp K H y e ∧ d.plain = true ∧ e.plain = true ∧ d.depth ≤ dEq ∧ Q (.bl (!PyData.eqv d e)) H
def rInP (K : PySem.W.Frag) (neg : Bool) : R2 := fun x y H Q => ∃ (d : PyData) (es : List PyData) (a : Addr) (ys : List V), Dp K H x d ∧ y = .ref a ∧ (SqL K H a ys ∨ SqT K H a ys) ∧ DpAll K H ys es ∧ d.plain = true ∧ PyData.plainAll es = true ∧ d.depth ≤ dEq ∧ Q (.bl (neg != es.any fun y => PyData.eqv y d)) H
section
variable {X : Cx} {E : XK} {a b : Expr} {ma mb : EM} {pos : Pos}
theorem op_eqP (hu : X.A.units + 64 < cLine) : OpR X (compareOp .Eq) (rEqP X.K) := by
  intro pins s σ H x y v u Q I rx ry h
  obtain ⟨d, e, hd, he, sd, se, hl, q⟩ := h
  obtain ⟨as, r1⟩ := Dp.reads I d x v hd rx
  obtain ⟨bs, r2⟩ := Dp.reads I e y u he ry
  have hl' : d.depth ≤ 40 := hl
  have hm : min d.depth e.depth ≤ d.depth := Nat.min_le_left _ _
  exact SeqAt.eq_plain r1 r2 sd se (by omega) ⟨.bl _, H, I, rfl, q⟩
theorem op_neP (hu : X.A.units + 64 < cLine) : OpR X (compareOp .NotEq) (rNeP X.K) := by
  intro pins s σ H x y v u Q I rx ry h
  obtain ⟨d, e, hd, he, sd, se, hl, q⟩ := h
  obtain ⟨as, r1⟩ := Dp.reads I d x v hd rx
  obtain ⟨bs, r2⟩ := Dp.reads I e y u he ry
  have hl' : d.depth ≤ 40 := hl
  have hm : min d.depth e.depth ≤ d.depth := Nat.min_le_left _ _
  exact SeqAt.ne_plain r1 r2 sd se (by omega) ⟨.bl _, H, I, rfl, q⟩
theorem op_inP (hu : X.A.units + 64 < cLine) : OpR X (compareOp .In) (rInP X.K false) := by
  intro pins s σ H x y v u Q I rx ry h
  obtain ⟨d, es, p, ys, hd, rfl, hs, he, sd, se, hl, q⟩ := h
  obtain ⟨as, r1⟩ := Dp.reads I d x v hd rx
  have hl' : d.depth ≤ 40 := hl
  have hm : min (PyData.depthAll es) d.depth ≤ d.depth := Nat.min_le_right _ _
  rw [Bool.false_bne] at q
  rcases hs with hs | hs
  · obtain ⟨bs, r2⟩ := Dp.reads I (.list es) (.ref p) u (.lst hs he) ry
    exact SeqAt.in_list_data r2 r1 se sd (by omega) ⟨.bl _, H, I, rfl, q⟩
  · obtain ⟨bs, r2⟩ := Dp.reads I (.tuple es) (.ref p) u (.tup hs he) ry
    exact SeqAt.in_tuple_data r2 r1 se sd (by omega) ⟨.bl _, H, I, rfl, q⟩
theorem op_notInP (hu : X.A.units + 64 < cLine) : OpR X (compareOp .NotIn) (rInP X.K true) := by
  intro pins s σ H x y v u Q I rx ry h
  obtain ⟨d, es, p, ys, hd, rfl, hs, he, sd, se, hl, q⟩ := h
  obtain ⟨as, r1⟩ := Dp.reads I d x v hd rx
  have hl' : d.depth ≤ 40 := hl
  have hm : min (PyData.depthAll es) d.depth ≤ d.depth := Nat.min_le_right _ _
  rw [Bool.true_bne] at q
  rcases hs with hs | hs
  · obtain ⟨bs, r2⟩ := Dp.reads I (.list es) (.ref p) u (.lst hs he) ry
    exact SeqAt.notIn_list_data r2 r1 se sd (by omega) ⟨.bl _, H, I, rfl, q⟩
  · obtain ⟨bs, r2⟩ := Dp.reads I (.tuple es) (.ref p) u (.tup hs he) ry
    exact SeqAt.notIn_tuple_data r2 r1 se sd (by omega) ⟨.bl _, H, I, rfl, q⟩
end
section
variable {K : PySem.W.Frag} {E : XK}
theorem s_eq : OpS K E (rEqP K) fEq := by
  intro ι G H v u x y Q S rx ry p
  unfold fEq at p
  cases e1 : toD G dEq v with
  | none => rw [e1] at p; exact p.elim
  | some d =>
    cases e2 : toD G dEq u with
    | none => rw [e1, e2] at p; exact p.elim
    | some e =>
      rw [e1, e2] at p
      exact ⟨d, e, dp_of S _ v x d rx e1, dp_of S _ u y e ry e2, (toD_ok _ v d e1).1, (toD_ok _ u e e2).1, (toD_ok _ v d e1).2, p.here S _ rfl⟩
theorem s_ne : OpS K E (rNeP K) fNe := by
  intro ι G H v u x y Q S rx ry p
  unfold fNe at p
  cases e1 : toD G dEq v with
  | none => rw [e1] at p; exact p.elim
  | some d =>
    cases e2 : toD G dEq u with
    | none => rw [e1, e2] at p; exact p.elim
    | some e =>
      rw [e1, e2] at p
      exact ⟨d, e, dp_of S _ v x d rx e1, dp_of S _ u y e ry e2, (toD_ok _ v d e1).1, (toD_ok _ u e e2).1, (toD_ok _ v d e1).2, p.here S _ rfl⟩
theorem items_at {ι : Nat → Addr} {G : Store} {H : Hp} {u : Val} {y : V} {l : List Val} (S : Sim K ι G H) (r : Rep K ι G.length H u y) (h : itemsOf G u = some l) : ∃ a ys, y = .ref a ∧ (SqL K H a ys ∨ SqT K H a ys) ∧ Reps K ι G.length H l ys := by
  cases u with
  | tup m =>
    cases h
    obtain ⟨a, xs, e, h1, h2⟩ := r
    exact ⟨a, xs, e, .inr h1, h2⟩
  | fro m =>
    cases h
    obtain ⟨a, xs, e, h1, h2⟩ := r
    exact ⟨a, xs, e, .inl h1.l, h2⟩
  | obj i =>
    have h0 : (match G[i]? with | some (.lst l) => some l | _ => none) = some l := h
    cases e0 : G[i]? with
    | none => rw [e0] at h0; cases h0
    | some o =>
      rw [e0] at h0
      cases o with
      | lst m =>
        cases h0
        obtain ⟨xs, h1, h2⟩ := S.lst e0
        exact ⟨ι i, xs, r.2, .inl (.of h1), h2⟩
      | _ => cases h0
  | _ => cases h
theorem s_in {neg : Bool} : OpS K E (rInP K neg) (fIn neg) := by
  intro ι G H v u x y Q S rx ry p
  unfold fIn at p
  cases e1 : toD G dEq v with
  | none => rw [e1] at p; exact p.elim
  | some d =>
    cases e2 : itemsOf G u with
    | none => rw [e1, e2] at p; exact p.elim
    | some l =>
      cases e3 : optAll (toD G dEq) l with
      | none =>
        rw [e1, e2] at p
        have p2 : Post K E ι G.length H (match some d, optAll (toD G dEq) l with | some d, some es => .ok (.bl (neg != (es.any fun y => PyData.eqv y d))) G | _, _ => .bad) (fun ι' G' H' w => ∀ z, Rep K ι' G'.length H' w z → Q z H') := p
        rw [e3] at p2
        exact p2.elim
      | some es =>
        rw [e1, e2] at p
        have p2 : Post K E ι G.length H (match some d, optAll (toD G dEq) l with | some d, some es => .ok (.bl (neg != (es.any fun y => PyData.eqv y d))) G | _, _ => .bad) (fun ι' G' H' w => ∀ z, Rep K ι' G'.length H' w z → Q z H') := p
        rw [e3] at p2
        obtain ⟨a, ys, ey, h1, h2⟩ := items_at S ry e2
        exact ⟨d, es, a, ys, dp_of S _ v x d rx e1, ey, h1, dp_all dEq (fun v x d r q => dp_of S dEq v x d r q) l ys es h2 e3, (toD_ok _ v d e1).1, plain_all es fun z hz => by
          obtain ⟨w, _, ew⟩ := optAll_mem e3 z hz
          exact (toD_ok _ w z ew).1, (toD_ok _ v d e1).2, p2.here S _ rfl⟩
end
section
variable {X : Cx} {E : XK} {a b : Expr} {ma mb : EM} {pos : Pos}
theorem re_eq (hu : X.A.units + 64 < cLine) (ha : RE X E a ma) (hb : RE X E b mb) : RE X E (.Compare a [.Eq] [b] pos) (eOp fEq ma mb) := re_cmp (op_eqP hu) s_eq ha hb (nomark _)
theorem re_ne (hu : X.A.units + 64 < cLine) (ha : RE X E a ma) (hb : RE X E b mb) : RE X E (.Compare a [.NotEq] [b] pos) (eOp fNe ma mb) := re_cmp (op_neP hu) s_ne ha hb (nomark _)
end
end R1

/-! R1c: tests, truth, and, or, not; displays; places, slices, fields; calls of built-ins. -/
namespace R1
open PySem PySem.Spec PyProof.Rows L2

/-! ### tests -/
def Res.asB (r : Res Val) : Res Bool := r.bind fun v G => match v with
  | .bl b => .ok b G
  | _ => .bad
def eTest (m : EM) : TM := fun ρ G => (m ρ G).asB
def truth (G : Store) : Val → Option Bool
  | .non => some false
  | .bl b => some b
  | .int i => some (i != 0)
  | .str _ => none
  | .tup l => some (!l.isEmpty)
  | .fro l => some (!l.isEmpty)
  | .obj i => match G[i]? with
    | some (.lst l) => some (!l.isEmpty)
    | some (.dic l) => some (!l.isEmpty)
    | _ => none
def eTruth (m : EM) : TM := fun ρ G => (m ρ G).bind fun v G1 => match truth G1 v with
  | some b => .ok b G1
  | none => .bad
def tNot1 (m : TM) : TM := fun ρ G => (m ρ G).bind fun b G1 => .ok (!b) G1
def tAnd1 (m k : TM) : TM := fun ρ G => (m ρ G).bind fun b G1 => if b = true then k ρ G1 else .ok false G1
def tOr1 (m k : TM) : TM := fun ρ G => (m ρ G).bind fun b G1 => if b = true then .ok true G1 else k ρ G1
section
variable {X : Cx} {E : XK} {a b c : Expr} {ma mb mc : EM} {ta tb : TM} {pos : Pos} {rest : List Expr}
/-- an expression, then what its value is worth -/
theorem run1 {σ : L2.St} {H : Hp} {ι : Nat → Addr} {G : Store} {ρ : Env1} {R : V → Hp → Prop} (S : Sim X.K ι G H) (sl : Slots X.K ι G.length H ρ σ)
    (h : Post X.K E ι G.length H (ma ρ G) fun ι' G' H' v => ∀ x, Rep X.K ι' G'.length H' v x → R x H') : tE X.K E ma σ H R := ⟨ι, G, ρ, S, sl, h⟩
theorem rt_of {t : TE} (h : PT X a (tTest t)) (w : ∀ σ H Q, tE X.K E ma σ H Q → t σ H Q) : RT X E a (eTest ma) := by
  refine pt_weak h fun σ H Q ⟨ι, G, ρ, S, sl, p⟩ => w σ H _ (run1 S sl ((Post.bind p).mono fun ι1 G1 H1 v x1 S1 p1 x rx => ?_))
  cases v with
  | bl b => exact ⟨b, rx, p1.here S1⟩
  | _ => exact p1.elim
theorem rt_cmp {op : CmpOp} {r : R2} {f : F2} (ho : OpR X (compareOp op) r) (hs : OpS X.K E r f) (ha : RE X E a ma) (hb : RE X E b mb) (hm : behindInMarks op b = false) : RT X E (.Compare a [op] [b] pos) (eTest (eOp f ma mb)) :=
  rt_of (pt_cmpR ho ha hb hm) fun σ H Q h => two h fun ι G H' v u x y S rx ry p => hs ι G H' v u x y Q S rx ry p
theorem rt_lt (ha : RE X E a ma) (hb : RE X E b mb) : RT X E (.Compare a [.Lt] [b] pos) (eTest (eOp fLt ma mb)) := rt_cmp op_lt s_lt ha hb (nomark _)
theorem rt_le (ha : RE X E a ma) (hb : RE X E b mb) : RT X E (.Compare a [.LtE] [b] pos) (eTest (eOp fLe ma mb)) := rt_cmp op_le s_le ha hb (nomark _)
theorem rt_gt (ha : RE X E a ma) (hb : RE X E b mb) : RT X E (.Compare a [.Gt] [b] pos) (eTest (eOp fGt ma mb)) := rt_cmp op_gt s_gt ha hb (nomark _)
theorem rt_ge (ha : RE X E a ma) (hb : RE X E b mb) : RT X E (.Compare a [.GtE] [b] pos) (eTest (eOp fGe ma mb)) := rt_cmp op_ge s_ge ha hb (nomark _)
theorem rt_eq (hu : X.A.units + 64 < cLine) (ha : RE X E a ma) (hb : RE X E b mb) : RT X E (.Compare a [.Eq] [b] pos) (eTest (eOp fEq ma mb)) := rt_cmp (op_eqP hu) s_eq ha hb (nomark _)
theorem rt_ne (hu : X.A.units + 64 < cLine) (ha : RE X E a ma) (hb : RE X E b mb) : RT X E (.Compare a [.NotEq] [b] pos) (eTest (eOp fNe ma mb)) := rt_cmp (op_neP hu) s_ne ha hb (nomark _)
theorem rt_is (ha : RE X E a ma) (hb : RE X E b mb) : RT X E (.Compare a [.Is] [b] pos) (eTest (eOp fIs ma mb)) := rt_cmp (op_isN.or op_isBl) (s_isN.or s_isB) ha hb (nomark _)
theorem rt_isnot (ha : RE X E a ma) (hb : RE X E b mb) : RT X E (.Compare a [.IsNot] [b] pos) (eTest (eOp fIsNot ma mb)) := rt_cmp (op_notN.or op_notBl) (s_notN.or s_notB) ha hb (nomark _)
/-! two comparisons in a row -/
def eChain (f g : F2) (a b c : EM) : EM := fun ρ G => (a ρ G).bind fun v G1 => (b ρ G1).bind fun u G2 => (f v u G2).bind fun k G3 => match k with
  | .bl true => (c ρ G3).bind fun w G4 => g u w G4
  | .bl false => .ok (.bl false) G3
  | _ => .bad
theorem chain_w {f g : F2} {r r' : R2} (hf : OpS X.K E r f) (hg : OpS X.K E r' g) : ∀ σ H Q, tE X.K E (eChain f g ma mb mc) σ H Q → tChain r r' (tE X.K E ma) (tE X.K E mb) (tE X.K E mc) σ H Q := fun σ H Q ⟨ι, G, ρ, S, sl, p⟩ => by
  refine run1 S sl ((Post.bind p).mono fun ι1 G1 H1 v x1 S1 p1 x rx => run1 S1 (sl.ext x1) ((Post.bind p1).mono fun ι2 G2 H2 u x2 S2 p2 y ry => ?_))
  refine hf ι2 G2 H2 v u x y _ S2 (rx.ext x2) ry ((Post.bind p2).mono fun ι3 G3 H3 k x3 S3 p3 z rz => ?_)
  cases k with
  | bl k =>
    refine ⟨k, rz, ?_⟩
    cases k with
    | false =>
      rw [if_neg (by decide)]
      exact p3.here S3 _ rfl
    | true =>
      rw [if_pos rfl]
      exact run1 S3 (sl.ext ((x1.trans x2).trans x3)) ((Post.bind p3).mono fun ι4 G4 H4 w x4 S4 p4 z' rz' => hg ι4 G4 H4 u w y z' Q S4 (ry.ext (x3.trans x4)) rz' p4)
  | _ => exact p3.elim
theorem re_chain {op op' : CmpOp} {r r' : R2} {f g : F2} (ho : OpR X (compareOp op) r) (ho' : OpR X (compareOp op') r') (hf : OpS X.K E r f) (hg : OpS X.K E r' g) (ha : RE X E a ma) (hb : RE X E b mb) (hc : RE X E c mc)
    (hm : lastMarks [op, op'] [b, c] = false := by with_unfolding_all rfl) : RE X E (.Compare a [op, op'] [b, c] pos) (eChain f g ma mb mc) := pe_weak (pe_chain ho ho' ha hb hc hm) (chain_w hf hg)
theorem rt_chain {op op' : CmpOp} {r r' : R2} {f g : F2} (ho : OpR X (compareOp op) r) (ho' : OpR X (compareOp op') r') (hf : OpS X.K E r f) (hg : OpS X.K E r' g) (ha : RE X E a ma) (hb : RE X E b mb) (hc : RE X E c mc)
    (hm : lastMarks [op, op'] [b, c] = false := by with_unfolding_all rfl) : RT X E (.Compare a [op, op'] [b, c] pos) (eTest (eChain f g ma mb mc)) := rt_of (pt_chain ho ho' ha hb hc hm) (chain_w hf hg)
/-! truth -/
theorem tru_at {K : PySem.W.Frag} {ι : Nat → Addr} {G : Store} {H : Hp} {v : Val} {x : V} {b : Bool} (S : Sim K ι G H) (r : Rep K ι G.length H v x) (h : truth G v = some b) : TruV K x H b := by
  cases v with
  | non => rw [show x = .non from r]; cases h; rfl
  | bl k => rw [show x = .bl k from r]; cases h; rfl
  | int i => rw [show x = .int i from r]; cases h; rfl
  | str s => cases h
  | tup l =>
    obtain ⟨a, xs, e, h1, h2⟩ := r
    cases h
    rw [e]
    refine .inr (.inl ⟨xs, h1, ?_⟩)
    have := h2.length
    cases l <;> cases xs <;> first | rfl | simp at this
  | fro l =>
    obtain ⟨a, xs, e, h1, h2⟩ := r
    cases h
    rw [e]
    refine .inl ⟨xs, h1.l, ?_⟩
    have := h2.length
    cases l <;> cases xs <;> first | rfl | simp at this
  | obj i =>
    have h0 : (match G[i]? with | some (.lst l) => some (!l.isEmpty) | some (.dic l) => some (!l.isEmpty) | _ => none) = some b := h
    rw [r.2]
    cases e0 : G[i]? with
    | none => rw [e0] at h0; cases h0
    | some o =>
      rw [e0] at h0
      cases o with
      | lst l =>
        cases h0
        obtain ⟨xs, h1, h2⟩ := S.lst e0
        refine .inl ⟨xs, .of h1, ?_⟩
        have := h2.length
        cases l <;> cases xs <;> first | rfl | simp at this
      | dic l =>
        cases h0
        obtain ⟨xs, h1, h2⟩ := S.dic e0
        refine .inr (.inr ⟨xs, h1, ?_⟩)
        have := h2.length
        cases l <;> cases xs <;> first | rfl | simp at this
      | _ => cases h0
theorem rt_truth (ha : RE X E a ma) (he : ∀ whole, isTrue a X.env whole = (do let v ← whole; standAt a.pos; holding [v] (truthy v)) := by intro _; rfl) : RT X E a (eTruth ma) := by
  refine pt_weak (pt_truth ha he) fun σ H Q ⟨ι, G, ρ, S, sl, p⟩ => run1 S sl ((Post.bind p).mono fun ι1 G1 H1 v x1 S1 p1 x rx => ?_)
  cases e : truth G1 v with
  | none => rw [e] at p1; exact p1.elim
  | some b =>
    rw [e] at p1
    exact ⟨b, tru_at S1 rx e, p1.here S1⟩
theorem rt_not (ha : RT X E a ta) : RT X E (.UnaryOp .Not a pos) (tNot1 ta) := by
  refine pt_weak (pt_not ha) fun σ H Q ⟨ι, G, ρ, S, sl, p⟩ => ⟨ι, G, ρ, S, sl, (Post.bind p).mono fun ι1 G1 H1 b x1 S1 p1 => p1.here S1⟩
theorem rw_and1 (ha : RT X E a ta) : RW X E (.BoolOp .And [a] pos) ta := pw_and1 ha
theorem rw_or1 (ha : RT X E a ta) : RW X E (.BoolOp .Or [a] pos) ta := pw_or1 ha
theorem rw_and (ha : RT X E a ta) (hb : RW X E (.BoolOp .And (b :: rest) pos) tb) : RW X E (.BoolOp .And (a :: b :: rest) pos) (tAnd1 ta tb) := by
  refine pw_weak (pw_and ha hb) fun σ H Q ⟨ι, G, ρ, S, sl, p⟩ => ⟨ι, G, ρ, S, sl, (Post.bind p).mono fun ι1 G1 H1 b x1 S1 p1 => ?_⟩
  cases b with
  | true => exact ⟨ι1, G1, ρ, S1, sl.ext x1, p1⟩
  | false => exact p1.here S1
theorem rw_or (ha : RT X E a ta) (hb : RW X E (.BoolOp .Or (b :: rest) pos) tb) : RW X E (.BoolOp .Or (a :: b :: rest) pos) (tOr1 ta tb) := by
  refine pw_weak (pw_or ha hb) fun σ H Q ⟨ι, G, ρ, S, sl, p⟩ => ⟨ι, G, ρ, S, sl, (Post.bind p).mono fun ι1 G1 H1 b x1 S1 p1 => ?_⟩
  cases b with
  | true => exact p1.here S1
  | false => exact ⟨ι1, G1, ρ, S1, sl.ext x1, p1⟩
theorem rt_bool (h : RW X E a ta) : RT X E a ta := h.pt
end

/-! ### and, or, not as values (of bools) -/
def eNot (m : EM) : EM := fun ρ G => (m ρ G).bind fun v G1 => match v with
  | .bl b => .ok (.bl (!b)) G1
  | _ => .bad
def eAnd (m k : EM) : EM := fun ρ G => (m ρ G).bind fun v G1 => match v with
  | .bl true => k ρ G1
  | .bl false => .ok (.bl false) G1
  | _ => .bad
def eOr (m k : EM) : EM := fun ρ G => (m ρ G).bind fun v G1 => match v with
  | .bl true => .ok (.bl true) G1
  | .bl false => k ρ G1
  | _ => .bad
def eIf (t : TM) (a b : EM) : EM := fun ρ G => (t ρ G).bind fun k G1 => if k = true then a ρ G1 else b ρ G1
section
variable {X : Cx} {E : XK} {a b c : Expr} {ma mb mc : EM} {ta tb : TM} {pos : Pos} {rest : List Expr}
theorem re_not (ha : RE X E a ma) : RE X E (.UnaryOp .Not a pos) (eNot ma) := by
  refine pe_weak (pe_not ha) fun σ H Q ⟨ι, G, ρ, S, sl, p⟩ => run1 S sl ((Post.bind p).mono fun ι1 G1 H1 v x1 S1 p1 x rx => ?_)
  cases v with
  | bl b => exact ⟨b, rx, p1.here S1 _ rfl⟩
  | _ => exact p1.elim
theorem re_one {op} (ha : RE X E a ma) : RE X E (.BoolOp op [a] pos) ma := pe_one ha
theorem re_and (ha : RE X E a ma) (hb : RE X E (.BoolOp .And (b :: rest) pos) mb) : RE X E (.BoolOp .And (a :: b :: rest) pos) (eAnd ma mb) := by
  refine pe_weak (pe_and ha hb) fun σ H Q ⟨ι, G, ρ, S, sl, p⟩ => run1 S sl ((Post.bind p).mono fun ι1 G1 H1 v x1 S1 p1 x rx => ?_)
  cases v with
  | bl k =>
    refine ⟨k, rx, ?_⟩
    cases k with
    | true => exact run1 S1 (sl.ext x1) p1
    | false => exact p1.here S1 _ rfl
  | _ => exact p1.elim
theorem re_or (ha : RE X E a ma) (hb : RE X E (.BoolOp .Or (b :: rest) pos) mb) : RE X E (.BoolOp .Or (a :: b :: rest) pos) (eOr ma mb) := by
  refine pe_weak (pe_or ha hb) fun σ H Q ⟨ι, G, ρ, S, sl, p⟩ => run1 S sl ((Post.bind p).mono fun ι1 G1 H1 v x1 S1 p1 x rx => ?_)
  cases v with
  | bl k =>
    refine ⟨k, rx, ?_⟩
    cases k with
    | true => exact p1.here S1 _ rfl
    | false => exact run1 S1 (sl.ext x1) p1
  | _ => exact p1.elim
theorem re_if (hc : RT X E c ta) (ha : RE X E a ma) (hb : RE X E b mb) : RE X E (.IfExp c a b pos) (eIf ta ma mb) := by
  refine pe_weak (pe_ifExp hc ha hb) fun σ H Q ⟨ι, G, ρ, S, sl, p⟩ => ⟨ι, G, ρ, S, sl, (Post.bind p).mono fun ι1 G1 H1 k x1 S1 p1 => ?_⟩
  cases k with
  | true => exact run1 S1 (sl.ext x1) p1
  | false => exact run1 S1 (sl.ext x1) p1
end

/-! ### arguments, displays -/
def aNil : AM := fun _ G => .ok [] G
def aCons (m : EM) (k : AM) : AM := fun ρ G => (m ρ G).bind fun v G1 => (k ρ G1).bind fun vs G2 => .ok (v :: vs) G2
def eTup (k : AM) : EM := fun ρ G => (k ρ G).bind fun vs G1 => if vs.length ≤ sizeLine then .ok (.tup vs) G1 else .bad
def eLst (k : AM) : EM := fun ρ G => (k ρ G).bind fun vs G1 => if vs.length ≤ sizeLine then alloc (.lst vs) G1 else .bad
def eDic0 : EM := fun _ G => alloc (.dic []) G
section
variable {X : Cx} {E : XK} {e : Expr} {es : List Expr} {me : EM} {mes : AM} {pos : Pos}
theorem ra_nil : RA X E [] aNil := pa_weak pa_nil fun σ H Q ⟨ι, G, ρ, S, sl, p⟩ => p.here S [] rfl
theorem ra_cons (he : RE X E e me) (hr : RA X E es mes) (hs : starEach (e :: es) X.env = (false, eval e X.env) :: starEach es X.env := by rfl) : RA X E (e :: es) (aCons me mes) := by
  refine pa_weak (pa_cons he hr hs) fun σ H Q ⟨ι, G, ρ, S, sl, p⟩ => run1 S sl ((Post.bind p).mono fun ι1 G1 H1 v x1 S1 p1 x rx => ⟨ι1, G1, ρ, S1, sl.ext x1, (Post.bind p1).mono fun ι2 G2 H2 vs x2 S2 p2 xs rxs => p2.here S2 _ ⟨x, xs, rfl, rx.ext x2, rxs⟩⟩)
theorem re_tup {k} (h : RA X E es mes) : RE X E (.Tuple es k pos) (eTup mes) := by
  refine pe_weak (pe_tup h) fun σ H Q ⟨ι, G, ρ, S, sl, p⟩ => ⟨ι, G, ρ, S, sl, (Post.bind p).mono fun ι1 G1 H1 vs x1 S1 p1 xs rx => ?_⟩
  have p2 : Post X.K E ι1 G1.length H1 (if vs.length ≤ sizeLine then Res.ok (.tup vs) G1 else .bad) (fun ι' G' H' v => ∀ x, Rep X.K ι' G'.length H' v x → Q x H') := p1
  by_cases hl : vs.length ≤ sizeLine
  · rw [if_pos hl] at p2
    exact ⟨by rw [rx.length]; exact hl, post_tup S1 rx p2⟩
  · rw [if_neg hl] at p2
    exact p2.elim
theorem re_lst (h : RA X E es mes) : RE X E (.List es pos) (eLst mes) := by
  refine pe_weak (pe_lst h) fun σ H Q ⟨ι, G, ρ, S, sl, p⟩ => ⟨ι, G, ρ, S, sl, (Post.bind p).mono fun ι1 G1 H1 vs x1 S1 p1 xs rx => ?_⟩
  have p2 : Post X.K E ι1 G1.length H1 (if vs.length ≤ sizeLine then alloc (.lst vs) G1 else .bad) (fun ι' G' H' v => ∀ x, Rep X.K ι' G'.length H' v x → Q x H') := p1
  by_cases hl : vs.length ≤ sizeLine
  · rw [if_pos hl] at p2
    exact ⟨by rw [rx.length]; exact hl, post_lst S1 rx p2⟩
  · rw [if_neg hl] at p2
    exact p2.elim
theorem post_obj {K : PySem.W.Frag} {ι : Nat → Addr} {G : Store} {H : Hp} {o : Ob} {u : HO} {Q : VK} (S : Sim K ι G H) (ho : ∀ ι' n' H' q, Ext K ι G.length H ι' n' H' → H' q = some u → ORep K ι' n' H' o q)
    (p : Post K E ι G.length H (alloc o G) (fun ι' G' H' w => ∀ z, Rep K ι' G'.length H' w z → Q z H')) : ∀ q, H q = none → Q (.ref q) (L2.upd H q u) := fun q hq => by
  have e1 : Ext K ι G.length H (into ι G.length q) (G.length + 1) (L2.upd H q u) := Ext.push hq
  have e : Ext K ι G.length H (into ι G.length q) (G ++ [o]).length (L2.upd H q u) := by
    rw [List.length_append, List.length_singleton]
    exact e1
  refine p (into ι G.length q) _ e (S.push hq (ho _ _ _ q e1 upd_same)) _ ⟨?_, ?_⟩
  · rw [List.length_append, List.length_singleton]
    exact Nat.lt_succ_self _
  · rw [into_eq]
theorem re_dic0 : RE X E (.Dict [] [] pos) eDic0 := pe_weak pe_dnewK fun σ H Q ⟨ι, G, ρ, S, sl, p⟩ => post_obj (o := .dic []) (u := .dK []) S (fun _ _ _ q _ h => ⟨[], h, rfl⟩) p
end

/-! ### places -/
def atL (l : List Val) (i : Int) : Option Val := L2.atI l i
def keyOf : Val → Option Ky
  | .int i => some (.inl i)
  | .str k => some (.inr k)
  | _ => none
def lookK (kvs : List (Ky × Val)) (k : Ky) : Option Val := (kvs.find? fun kv => decide (kv.1 = k)).map (·.2)
def putKy (kvs : List (Ky × Val)) (k : Ky) (v : Val) : List (Ky × Val) :=
  if (kvs.any fun kv => decide (kv.1 = k)) = true then kvs.map (fun kv => if kv.1 = k then (kv.1, v) else kv) else kvs ++ [(k, v)]
def dropKy (kvs : List (Ky × Val)) (k : Ky) : List (Ky × Val) := kvs.filter fun kv => decide (kv.1 ≠ k)
/-- a list's, a tuple's item -/
def fIxS : F2 := fun v u G => match u, itemsOf G v with
  | .int i, some l => (match atL l i with
    | some w => .ok w G
    | none => .bad)
  | _, _ => .bad
/-- a dict's value -/
def fIxD : F2 := fun v u G => match v with
  | .obj i => (match G[i]?, keyOf u with
    | some (.dic kvs), some k => (match lookK kvs k with
      | some w => .ok w G
      | none => .bad)
    | _, _ => .bad)
  | _ => .bad
def fIx : F2 := orF fIxS fIxD
section
variable {K : PySem.W.Frag} {E : XK} {ι : Nat → Addr} {n : Nat} {G : Store} {H : Hp}
theorem Reps.at {l : List Val} {xs : List V} {i : Int} {v : Val} (r : Reps K ι n H l xs) (h : atL l i = some v) : ∃ x, L2.atI xs i = some x ∧ Rep K ι n H v x := by
  unfold atL L2.atI at *
  rw [r.length]
  cases e : ixN l.length i with
  | none => rw [e] at h; cases h
  | some j =>
    rw [e] at h
    exact r.get h
theorem key_rep {v : Val} {x : V} {k : Ky} (r : Rep K ι n H v x) (h : keyOf v = some k) : x = kV (kyOf k) := by
  cases v with
  | int i => cases h; exact r
  | str s => cases h; exact r
  | _ => cases h
theorem kyOf_dec (a b : Ky) : decide (kyOf a = kyOf b) = decide (a = b) := by
  by_cases h : a = b
  · rw [h, decide_eq_true rfl, decide_eq_true rfl]
  · rw [decide_eq_false h, decide_eq_false fun q => h (kyOf_inj q)]
theorem KReps.val {k : Ky} : ∀ {l : List (Ky × Val)} {xs : List (Key × V)}, KReps K ι n H l xs → (∀ v, lookK l k = some v → ∃ x, valV xs (kyOf k) = some x ∧ Rep K ι n H v x) ∧ (lookK l k = none → valV xs (kyOf k) = none)
  | [], _, h => by
    rw [show _ = [] from h]
    exact ⟨fun v e => (by cases e), fun _ => rfl⟩
  | q :: l, _, ⟨y, ys, h1, h2, h3⟩ => by
    rw [h1]
    unfold lookK valV
    rw [List.find?_cons, List.find?_cons]
    show (∀ v, Option.map (·.2) (match decide (q.1 = k) with | true => some q | false => l.find? fun kv => decide (kv.1 = k)) = some v → _) ∧ _
    have ed : decide (((kyOf q.1, y) : Key × V).1 = kyOf k) = decide (q.1 = k) := kyOf_dec q.1 k
    rw [ed]
    cases decide (q.1 = k) with
    | true => exact ⟨fun v e => ⟨y, rfl, (by cases e; exact h2)⟩, fun e => (by cases e)⟩
    | false => exact KReps.val h3
theorem s_ixS : OpS K E (fun x y H Q => rIxL K x y H Q ∨ rIxT K x y H Q) fIxS := by
  intro ι G H v u x y Q S rx ry p
  unfold fIxS at p
  cases u with
  | int i =>
    cases e1 : itemsOf G v with
    | none => rw [e1] at p; exact p.elim
    | some l =>
      rw [e1] at p
      have p2 : Post K E ι G.length H (match atL l i with | some w => .ok w G | none => .bad) (fun ι' G' H' w => ∀ z, Rep K ι' G'.length H' w z → Q z H') := p
      cases e2 : atL l i with
      | none => rw [e2] at p2; exact p2.elim
      | some w =>
        rw [e2] at p2
        obtain ⟨a, ys, ex, h1, h2⟩ := items_at S rx e1
        obtain ⟨z, ez, rz⟩ := h2.at e2
        rcases h1 with h1 | h1
        · exact .inl ⟨a, ys, i, z, ex, ry, h1, ez, p2.here S _ rz⟩
        · exact .inr ⟨a, ys, i, z, ex, ry, h1, ez, p2.here S _ rz⟩
  | _ => exact p.elim
end
section
variable {X : Cx} {E : XK} {a b : Expr} {ma mb : EM} {pos : Pos}
theorem pe_orE {e : Expr} {t t' : TE} (h : PE X e t) (h' : PE X e t') : PE X e (fun σ H Q => t σ H Q ∨ t' σ H Q) := ⟨fun pins s σ H Q I q => q.elim (h.run pins s σ H Q I) (h'.run pins s σ H Q I)⟩
theorem re_orE {e : Expr} {m m' : EM} (h : RE X E e m) (h' : RE X E e m') : RE X E e (fun ρ G => match m ρ G with | .bad => m' ρ G | r => r) := by
  refine pe_weak (pe_orE h h') fun σ H Q ⟨ι, G, ρ, S, sl, p⟩ => ?_
  cases e1 : m ρ G with
  | bad =>
    simp only [e1] at p
    exact .inr ⟨ι, G, ρ, S, sl, p⟩
  | ok v G' =>
    simp only [e1] at p
    exact .inl ⟨ι, G, ρ, S, sl, by rw [e1]; exact p⟩
  | exc c G' =>
    simp only [e1] at p
    exact .inl ⟨ι, G, ρ, S, sl, by rw [e1]; exact p⟩
/-- a list's or tuple's item -/
theorem re_ix (ha : RE X E a ma) (hb : RE X E b mb) (hs : PlainIx b := by intro _ _; rfl) : RE X E (.Subscript a b pos) (eOp fIxS ma mb) :=
  pe_weak (pe_ix (ix_list.or ix_tup) ha hb hs) fun σ H Q h => two h fun ι G H' v u x y S rx ry p => s_ixS ι G H' v u x y Q S rx ry p
/-- a dict's value -/
theorem re_ixD (hu : X.A.units + 64 < cLine) (ha : RE X E a ma) (hb : RE X E b mb) (hs : NoSl b := by intro _ _; rfl) : RE X E (.Subscript a b pos) (eOp fIxD ma mb) := by
  refine pe_weak (pe_dget (by omega) ha hb hs) fun σ H Q h => two h fun ι G H' v u x y S rx ry p => ?_
  unfold fIxD at p
  cases v with
  | obj i =>
    cases e1 : G[i]? with
    | none => simp only [e1] at p; exact p.elim
    | some o =>
      cases e2 : keyOf u with
      | none => simp only [e1, e2] at p; cases o <;> exact p.elim
      | some k =>
        simp only [e1, e2] at p
        cases o with
        | dic kvs =>
          have p2 : Post X.K E ι G.length H' (match lookK kvs k with | some w => .ok w G | none => .bad) (fun ι' G' H' w => ∀ z, Rep X.K ι' G'.length H' w z → Q z H') := p
          cases e3 : lookK kvs k with
          | none => rw [e3] at p2; exact p2.elim
          | some w =>
            rw [e3] at p2
            obtain ⟨xs, h1, h2⟩ := S.dic e1
            obtain ⟨z, ez, rz⟩ := h2.val.1 w e3
            exact ⟨ι i, z, rx.2, .inl ⟨xs, kyOf k, .inl h1, key_rep ry e2, ez.symm⟩, p2.here S _ rz⟩
        | _ => exact p.elim
  | _ => exact p.elim
end

/-! ### slices -/
def cutL (l : List Val) (lo hi : Option Int) : List Val := (l.drop (HT.sIx l.length 0 lo)).take (HT.sIx l.length l.length hi - HT.sIx l.length 0 lo)
abbrev OM := Env1 → Store → Res (Option Int)
def oNone : OM := fun _ G => .ok none G
def oSome (m : EM) : OM := fun ρ G => (m ρ G).bind fun v G1 => match v with
  | .int i => .ok (some i) G1
  | _ => .bad
def fSl : Val → Option Int → Option Int → Store → Res Val := fun v lo hi G => match v with
  | .tup l => .ok (.tup (cutL l lo hi)) G
  | _ => (match itemsOf G v with
    | some l => alloc (.lst (cutL l lo hi)) G
    | none => .bad)
def eSl (m : EM) (lo hi : OM) : EM := fun ρ G => (m ρ G).bind fun v G1 => (lo ρ G1).bind fun l G2 => (hi ρ G2).bind fun u G3 => fSl v l u G3
section
variable {K : PySem.W.Frag} {E : XK} {ι : Nat → Addr} {n : Nat} {G : Store} {H : Hp}
theorem Reps.cut {l : List Val} {xs : List V} (r : Reps K ι n H l xs) (lo hi : Option Int) : Reps K ι n H (cutL l lo hi) (cutV xs lo hi) := by
  unfold cutL cutV
  rw [r.length]
  exact (r.drop _).take _
end
section
variable {X : Cx} {E : XK} {e : Expr} {me : EM} {lo hi : Option Expr} {ml mh : OM} {p2 pos : Pos}
abbrev tO (K : PySem.W.Frag) (E : XK) (m : OM) : TO := fun σ H Q => ∃ ι G ρ, Sim K ι G H ∧ Slots K ι G.length H ρ σ ∧ Post K E ι G.length H (m ρ G) fun ι' G' H' o => Q o H'
abbrev RO (X : Cx) (E : XK) (e : Option Expr) (m : OM) : Prop := PO X e (tO X.K E m)
theorem po_weak {e : Option Expr} {t t' : TO} (h : PO X e t) (w : ∀ σ H Q, t' σ H Q → t σ H Q) : PO X e t' := ⟨fun pins s σ H Q I q => h.run pins s σ H Q I (w σ H Q q)⟩
theorem ro_none : RO X E none oNone := po_weak po_none fun σ H Q ⟨ι, G, ρ, S, sl, p⟩ => p.here S
theorem ro_some (h : RE X E e me) : RO X E (some e) (oSome me) := by
  refine po_weak (po_some h) fun σ H Q ⟨ι, G, ρ, S, sl, p⟩ => run1 S sl ((Post.bind p).mono fun ι1 G1 H1 v x1 S1 p1 x rx => ?_)
  cases v with
  | int i => exact ⟨i, rx, p1.here S1⟩
  | _ => exact p1.elim
theorem re_sl (he : RE X E e me) (hl : RO X E lo ml) (hh : RO X E hi mh) : RE X E (.Subscript e (.Slice lo hi none p2) pos) (eSl me ml mh) := by
  refine pe_weak (pe_slice (sl_list.or sl_tupA) he hl hh) fun σ H Q ⟨ι, G, ρ, S, sl, p⟩ => run1 S sl ((Post.bind p).mono fun ι1 G1 H1 v x1 S1 q1 x rx => ⟨ι1, G1, ρ, S1, sl.ext x1, (Post.bind q1).mono fun ι2 G2 H2 l x2 S2 q2 => ⟨ι2, G2, ρ, S2, sl.ext (x1.trans x2), (Post.bind q2).mono fun ι3 G3 H3 u x3 S3 q3 => ?_⟩⟩)
  have r3 := rx.ext (x2.trans x3)
  unfold fSl at q3
  cases v with
  | tup m =>
    obtain ⟨a, xs, ex, h1, h2⟩ := r3
    refine .inr ⟨a, xs, ex, h1, fun hw => ?_, fun hw => post_tup S3 (h2.cut l u) q3⟩
    have e : cutL m l u = m := by
      unfold cutL
      rw [h2.length] at hw
      rw [hw.1, hw.2, List.drop_zero, Nat.sub_zero, List.take_length]
    have q4 : Post X.K E ι3 G3.length H3 (.ok (.tup (cutL m l u)) G3) (fun ι' G' H' v => ∀ x, Rep X.K ι' G'.length H' v x → Q x H') := q3
    rw [e] at q4
    exact q4.here S3 _ ⟨a, xs, rfl, h1, h2⟩
  | fro m =>
    obtain ⟨a, xs, ex, h1, h2⟩ := r3
    exact .inl ⟨a, xs, ex, h1.l, post_lst S3 (h2.cut l u) q3⟩
  | obj i =>
    cases e1 : itemsOf G3 (.obj i) with
    | none => simp only [e1] at q3; exact q3.elim
    | some m =>
      simp only [e1] at q3
      obtain ⟨a, ys, ex, h1, h2⟩ := items_at S3 r3 e1
      rcases h1 with h1 | h1
      · exact .inl ⟨a, ys, ex, h1, post_lst S3 (h2.cut l u) q3⟩
      · have e0 : (match G3[i]? with | some (.lst l) => some l | _ => none) = some m := e1
        cases eg : G3[i]? with
        | none => rw [eg] at e0; cases e0
        | some o =>
          rw [eg] at e0
          cases o with
          | lst w =>
            cases e0
            obtain ⟨xs, g1, g2⟩ := S3.lst eg
            exact .inl ⟨ι3 i, xs, r3.2, .of g1, post_lst S3 (g2.cut l u) q3⟩
          | _ => cases e0
  | _ => exact q3.elim
end

/-! ### fields -/
/-- the place of the field f in the class c -/
def eFld (m : EM) (places : List (Nat × Nat)) : EM := fun ρ G => (m ρ G).bind fun v G1 => match v with
  | .obj i => (match G1[i]? with
    | some (.ins c vs) => (match (places.lookup c).bind fun p => vs[p]? with
      | some w => .ok w G1
      | none => .bad)
    | _ => .bad)
  | _ => .bad
/-- the places say where f stands -/
def PlOk (f : Str) (places : List (Nat × Nat)) : Prop := ∀ q ∈ places, (cfields q.1)[q.2]? = some f
theorem lookup_mem {α β : Type} [BEq α] [LawfulBEq α] {k : α} {v : β} : ∀ {l : List (α × β)}, l.lookup k = some v → (k, v) ∈ l
  | [], h => by cases h
  | q :: l, h => by
    rw [List.lookup_cons] at h
    cases e : (k == q.1) with
    | true =>
      rw [e] at h
      cases h
      rw [eq_of_beq e]
      exact List.mem_cons_self ..
    | false =>
      rw [e] at h
      exact List.mem_cons_of_mem _ (lookup_mem h)
section
variable {X : Cx} {E : XK} {e : Expr} {me : EM} {f : Str} {pos : Pos} {pl : List (Nat × Nat)}
theorem re_fld (he : RE X E e me) (hp : PlOk f pl) (hb : attributeBase e f X.env (eval e X.env) = eval e X.env := by rfl) : RE X E (.Attribute e f pos) (eFld me pl) := by
  refine pe_weak (pe_fld he hb) fun σ H Q ⟨ι, G, ρ, S, sl, p⟩ => run1 S sl ((Post.bind p).mono fun ι1 G1 H1 v x1 S1 p1 x rx => ?_)
  cases v with
  | obj i =>
    cases e1 : G1[i]? with
    | none => simp only [e1] at p1; exact p1.elim
    | some o =>
      simp only [e1] at p1
      cases o with
      | ins c vs =>
        have p2 : Post X.K E ι1 G1.length H1 (match (pl.lookup c).bind fun p => vs[p]? with | some w => .ok w G1 | none => .bad) (fun ι' G' H' w => ∀ z, Rep X.K ι' G'.length H' w z → Q z H') := p1
        cases e2 : pl.lookup c with
        | none => rw [e2] at p2; exact p2.elim
        | some k =>
          rw [e2] at p2
          cases e3 : vs[k]? with
          | none =>
            have p3 : Post X.K E ι1 G1.length H1 (match vs[k]? with | some w => .ok w G1 | none => .bad) (fun ι' G' H' w => ∀ z, Rep X.K ι' G'.length H' w z → Q z H') := p2
            rw [e3] at p3
            exact p3.elim
          | some w =>
            have p3 : Post X.K E ι1 G1.length H1 (match vs[k]? with | some w => .ok w G1 | none => .bad) (fun ι' G' H' w => ∀ z, Rep X.K ι' G'.length H' w z → Q z H') := p2
            rw [e3] at p3
            have hf : (cfields c)[k]? = some f := hp (c, k) (lookup_mem e2)
            obtain ⟨ck, dx, gs, h1, h2⟩ := S1.ins e1
            obtain ⟨y, ey, ry⟩ := h2.look (fields_ok c).1 hf e3
            exact ⟨ι1 i, _, dx, gs, y, rx.2, h1, ck.cls, ck.fld f (List.mem_of_getElem? hf), ey, p3.here S1 _ ry⟩
      | _ => exact p1.elim
  | _ => exact p1.elim
end

/-! ### built-in functions -/
abbrev F1 := List Val → Store → Res Val
def CallS (K : PySem.W.Frag) (E : XK) (r : List V → Hp → VK → Prop) (f : F1) : Prop := ∀ (ι : Nat → Addr) (G : Store) (H : Hp) (vs : List Val) (xs : List V) (Q : VK), Sim K ι G H → Reps K ι G.length H vs xs →
  Post K E ι G.length H (f vs G) (fun ι' G' H' w => ∀ z, Rep K ι' G'.length H' w z → Q z H') → r xs H Q
def eCall (f : F1) (k : AM) : EM := fun ρ G => (k ρ G).bind fun vs G1 => f vs G1
def orF1 (f g : F1) : F1 := fun vs G => match f vs G with
  | .bad => g vs G
  | r => r
theorem CallR.or1 {X : Cx} {f : Value} {r r' : List V → Hp → VK → Prop} (h : CallR X f r) (h' : CallR X f r') : CallR X f (fun xs H Q => r xs H Q ∨ r' xs H Q) := fun pins s σ H xs us Q I rx q => q.elim (h pins s σ H xs us Q I rx) (h' pins s σ H xs us Q I rx)
theorem CallS.or {K : PySem.W.Frag} {E : XK} {r r' : List V → Hp → VK → Prop} {f g : F1} (h : CallS K E r f) (h' : CallS K E r' g) : CallS K E (fun xs H Q => r xs H Q ∨ r' xs H Q) (orF1 f g) := by
  intro ι G H vs xs Q S r p
  unfold orF1 at p
  cases e : f vs G with
  | bad =>
    rw [e] at p
    exact .inr (h' ι G H vs xs Q S r p)
  | ok w G' =>
    rw [e] at p
    exact .inl (h ι G H vs xs Q S r (by rw [e]; exact p))
  | exc c G' =>
    rw [e] at p
    exact .inl (h ι G H vs xs Q S r (by rw [e]; exact p))
section
variable {X : Cx} {E : XK} {e : Expr} {es : List Expr} {mes : AM} {x : Str} {p pos : Pos}
theorem re_callB {id : String} {r : List V → Hp → VK → Prop} {f : F1} (hc : CallR X (.builtin id) r) (hf : CallS X.K E r f) (hg : Gl X x) (hm : X.mg x = none) (hv : bootBuiltins x = some (.builtin id)) (ha : RA X E (e :: es) mes) (hn : x ≠ "__name__" := by decide) (hdb : (x == ("__debug__" : Str)) = false := by decide)
    (he : starEach (e :: es) X.env = (false, eval e X.env) :: starEach es X.env := by rfl) (hpl : (backTo pos (starEach es X.env)).any (·.1) = false := by rfl) : RE X E (.Call (.Name x p) (e :: es) [] pos) (eCall f mes) :=
  pe_weak (pe_callB hc hg hm hv ha hn hdb he hpl) fun σ H Q ⟨ι, G, ρ, S, sl, q⟩ => ⟨ι, G, ρ, S, sl, (Post.bind q).mono fun ι1 G1 H1 vs x1 S1 p1 xs rx => hf ι1 G1 H1 vs xs Q S1 rx p1⟩
theorem re_callTy {T : String} {r : List V → Hp → VK → Prop} {f : F1} (hc : CallR X (.type T) r) (hf : CallS X.K E r f) (hg : Gl X x) (hm : X.mg x = none) (hv : bootBuiltins x = some (.type T)) (ha : RA X E (e :: es) mes) (hn : x ≠ "__name__" := by decide) (hdb : (x == ("__debug__" : Str)) = false := by decide)
    (he : starEach (e :: es) X.env = (false, eval e X.env) :: starEach es X.env := by rfl) (hpl : (backTo pos (starEach es X.env)).any (·.1) = false := by rfl) : RE X E (.Call (.Name x p) (e :: es) [] pos) (eCall f mes) :=
  pe_weak (pe_callTy hc hg hm hv ha hn hdb he hpl) fun σ H Q ⟨ι, G, ρ, S, sl, q⟩ => ⟨ι, G, ρ, S, sl, (Post.bind q).mono fun ι1 G1 H1 vs x1 S1 p1 xs rx => hf ι1 G1 H1 vs xs Q S1 rx p1⟩
end
def bLen : F1 := fun vs G => match vs with
  | [v] => (match itemsOf G v with
    | some l => .ok (.int l.length) G
    | none => .bad)
  | _ => .bad
def bInt : F1 := fun vs G => match vs with
  | [.int i] => .ok (.int i) G
  | [.bl b] => .ok (.int (if b then 1 else 0)) G
  | _ => .bad
def bAbs : F1 := fun vs G => match vs with
  | [.int i] => .ok (.int (if i < 0 then -i else i)) G
  | _ => .bad
def bMax : F1 := fun vs G => match vs with
  | [.int i, .int j] => .ok (.int (if j > i then j else i)) G
  | _ => .bad
def bMin : F1 := fun vs G => match vs with
  | [.int i, .int j] => .ok (.int (if j < i then j else i)) G
  | _ => .bad
def bList : F1 := fun vs G => match vs with
  | [v] => (match itemsOf G v with
    | some l => alloc (.lst l) G
    | none => .bad)
  | _ => .bad
def bTuple : F1 := fun vs G => match vs with
  | [v] => (match itemsOf G v with
    | some l => .ok (.tup l) G
    | none => .bad)
  | _ => .bad
def asInts : List Val → Option (List Int)
  | [] => some []
  | .int i :: l => (asInts l).map (i :: ·)
  | _ :: _ => none
def asBls : List Val → Option (List Bool)
  | [] => some []
  | .bl i :: l => (asBls l).map (i :: ·)
  | _ :: _ => none
def sortI (l : List Int) : List Int := l.mergeSort fun a b => decide (a ≤ b)
def bSortI : F1 := fun vs G => match vs with
  | [v] => (match (itemsOf G v).bind asInts with
    | some l => alloc (.lst ((sortI l).map .int)) G
    | none => .bad)
  | _ => .bad
def bAll : F1 := fun vs G => match vs with
  | [v] => (match (itemsOf G v).bind asBls with
    | some l => .ok (.bl (l.all id)) G
    | none => .bad)
  | _ => .bad
def bAny : F1 := fun vs G => match vs with
  | [v] => (match (itemsOf G v).bind asBls with
    | some l => .ok (.bl (l.any id)) G
    | none => .bad)
  | _ => .bad
section
variable {K : PySem.W.Frag} {E : XK} {ι : Nat → Addr} {n : Nat} {G : Store} {H : Hp}
theorem reps1 {v : Val} {xs : List V} (r : Reps K ι n H [v] xs) : ∃ x, xs = [x] ∧ Rep K ι n H v x := by
  obtain ⟨y, ys, h1, h2, h3⟩ := r
  rw [show ys = [] from h3] at h1
  exact ⟨y, h1, h2⟩
theorem reps2 {v w : Val} {xs : List V} (r : Reps K ι n H [v, w] xs) : ∃ x y, xs = [x, y] ∧ Rep K ι n H v x ∧ Rep K ι n H w y := by
  obtain ⟨y, ys, h1, h2, z, zs, h3, h4, h5⟩ := r
  rw [show zs = [] from h5] at h3
  rw [h3] at h1
  exact ⟨y, z, h1, h2, h4⟩
theorem reps_ints : ∀ {l : List Val} {ns : List Int} {xs : List V}, asInts l = some ns → Reps K ι n H l xs → xs = ns.map V.int
  | [], ns, xs, h, r => by
    cases h
    exact r
  | v :: l, ns, xs, h, ⟨y, ys, h1, h2, h3⟩ => by
    cases v with
    | int i =>
      have h0 : (asInts l).map (i :: ·) = some ns := h
      cases e : asInts l with
      | none => rw [e] at h0; cases h0
      | some ms =>
        rw [e] at h0
        cases h0
        rw [h1, show y = V.int i from h2, reps_ints e h3]
        rfl
    | _ => cases h
theorem reps_bls : ∀ {l : List Val} {ns : List Bool} {xs : List V}, asBls l = some ns → Reps K ι n H l xs → xs = ns.map V.bl
  | [], ns, xs, h, r => by
    cases h
    exact r
  | v :: l, ns, xs, h, ⟨y, ys, h1, h2, h3⟩ => by
    cases v with
    | bl i =>
      have h0 : (asBls l).map (i :: ·) = some ns := h
      cases e : asBls l with
      | none => rw [e] at h0; cases h0
      | some ms =>
        rw [e] at h0
        cases h0
        rw [h1, show y = V.bl i from h2, reps_bls e h3]
        rfl
    | _ => cases h
theorem ints_reps : ∀ ns : List Int, Reps K ι n H (ns.map Val.int) (ns.map V.int)
  | [] => rfl
  | i :: ns => ⟨.int i, ns.map V.int, rfl, rfl, ints_reps ns⟩
theorem sortI_uniq {l m : List Int} (hp : m.Perm l) (hs : m.Pairwise (· ≤ ·)) : m = sortI l := by
  have h1 : (sortI l).Pairwise (· ≤ ·) := by
    have h := List.pairwise_mergeSort (le := fun a b : Int => decide (a ≤ b)) (fun a b c h1 h2 => by simp at *; omega) (fun a b => by simp; omega) l
    exact h.imp fun h => of_decide_eq_true h
  have h2 : (sortI l).Perm l := List.mergeSort_perm l _
  exact (hp.trans h2.symm).eq_of_pairwise (fun a b _ _ h1 h2 => Int.le_antisymm h1 h2) hs h1
theorem bs_len {r : List V → Hp → VK → Prop} (h : ∀ x n H Q, LenV K x H n → Q (.int n) H → r [x] H Q) : CallS K E r bLen := by
  intro ι G H vs xs Q S rs p
  unfold bLen at p
  cases vs with
  | nil => exact p.elim
  | cons v l =>
    cases l with
    | cons _ _ => exact p.elim
    | nil =>
      cases e : itemsOf G v with
      | none => simp only [e] at p; exact p.elim
      | some l =>
        simp only [e] at p
        obtain ⟨x, rfl, rx⟩ := reps1 rs
        obtain ⟨a, ys, ex, h1, h2⟩ := items_at S rx e
        refine h x l.length H Q ?_ (p.here S _ rfl)
        rw [ex, ← h2.length]
        rcases h1 with h1 | h1
        · exact .inl ⟨ys, h1, rfl⟩
        · exact .inr ⟨ys, h1, rfl⟩
theorem s_len {X : Cx} : CallS X.K E (fun xs H Q => ∃ x n, xs = [x] ∧ LenV X.K x H n ∧ Q (.int n) H) bLen := bs_len fun x n H Q h q => ⟨x, n, rfl, h, q⟩
theorem s_int : CallS K E (fun xs H Q => (∃ i, xs = [.int i] ∧ Q (.int i) H) ∨ ∃ k, xs = [.bl k] ∧ Q (.int (if k then 1 else 0)) H) bInt := by
  intro ι G H vs xs Q S rs p
  unfold bInt at p
  cases vs with
  | nil => exact p.elim
  | cons v l =>
    cases l with
    | cons _ _ => cases v <;> exact p.elim
    | nil =>
      obtain ⟨x, rfl, rx⟩ := reps1 rs
      cases v with
      | int i => exact .inl ⟨i, by rw [show x = V.int i from rx], p.here S _ rfl⟩
      | bl b => exact .inr ⟨b, by rw [show x = V.bl b from rx], p.here S _ rfl⟩
      | _ => exact p.elim
theorem s_abs : CallS K E (fun xs H Q => ∃ i, xs = [.int i] ∧ Q (.int (if i < 0 then -i else i)) H) bAbs := by
  intro ι G H vs xs Q S rs p
  unfold bAbs at p
  cases vs with
  | nil => exact p.elim
  | cons v l =>
    cases l with
    | cons _ _ => cases v <;> exact p.elim
    | nil =>
      obtain ⟨x, rfl, rx⟩ := reps1 rs
      cases v with
      | int i => exact ⟨i, by rw [show x = V.int i from rx], p.here S _ rfl⟩
      | _ => exact p.elim
theorem two_ints {vs : List Val} {xs : List V} {g : Int → Int → Int} {f : F1} {Q : VK} (hf : ∀ vs G, f vs G = match vs with | [.int i, .int j] => .ok (.int (g i j)) G | _ => .bad) (S : Sim K ι G H) (rs : Reps K ι G.length H vs xs)
    (p : Post K E ι G.length H (f vs G) (fun ι' G' H' w => ∀ z, Rep K ι' G'.length H' w z → Q z H')) : ∃ i j, xs = [.int i, .int j] ∧ Q (.int (g i j)) H := by
  rw [hf] at p
  cases vs with
  | nil => exact p.elim
  | cons v l =>
    cases l with
    | nil => cases v <;> exact p.elim
    | cons w m =>
      cases m with
      | cons _ _ => cases v <;> (try exact p.elim) <;> (cases w <;> exact p.elim)
      | nil =>
        obtain ⟨x, y, rfl, rx, ry⟩ := reps2 rs
        cases v with
        | int i =>
          cases w with
          | int j => exact ⟨i, j, by rw [show x = V.int i from rx, show y = V.int j from ry], p.here S _ rfl⟩
          | _ => exact p.elim
        | _ => exact p.elim
theorem s_max : CallS K E (fun xs H Q => ∃ i j, xs = [.int i, .int j] ∧ Q (.int (if j > i then j else i)) H) bMax := fun ι G H vs xs Q S rs p => two_ints (g := fun i j => if j > i then j else i) (fun vs G => rfl) S rs p
theorem s_min : CallS K E (fun xs H Q => ∃ i j, xs = [.int i, .int j] ∧ Q (.int (if j < i then j else i)) H) bMin := fun ι G H vs xs Q S rs p => two_ints (g := fun i j => if j < i then j else i) (fun vs G => rfl) S rs p
/-- one argument that is a list or a tuple -/
theorem one_seq {vs : List Val} {xs : List V} {β : Type} {g : List Val → Option β} {k : β → Store → Res Val} {f : F1} {Q : VK} (hf : ∀ vs G, f vs G = match vs with | [v] => (match (itemsOf G v).bind g with | some l => k l G | none => .bad) | _ => .bad) (S : Sim K ι G H) (rs : Reps K ι G.length H vs xs)
    (p : Post K E ι G.length H (f vs G) (fun ι' G' H' w => ∀ z, Rep K ι' G'.length H' w z → Q z H')) : ∃ a ys l b, xs = [.ref a] ∧ (SqL K H a ys ∨ SqT K H a ys) ∧ Reps K ι G.length H l ys ∧ g l = some b ∧ Post K E ι G.length H (k b G) (fun ι' G' H' w => ∀ z, Rep K ι' G'.length H' w z → Q z H') := by
  rw [hf] at p
  cases vs with
  | nil => exact p.elim
  | cons v l =>
    cases l with
    | cons _ _ => exact p.elim
    | nil =>
      have p2 : Post K E ι G.length H (match (itemsOf G v).bind g with | some l => k l G | none => .bad) (fun ι' G' H' w => ∀ z, Rep K ι' G'.length H' w z → Q z H') := p
      cases e : itemsOf G v with
      | none => rw [e] at p2; exact p2.elim
      | some l =>
        rw [e] at p2
        cases e2 : g l with
        | none =>
          have p3 : Post K E ι G.length H (match g l with | some l => k l G | none => .bad) (fun ι' G' H' w => ∀ z, Rep K ι' G'.length H' w z → Q z H') := p2
          rw [e2] at p3
          exact p3.elim
        | some b =>
          have p3 : Post K E ι G.length H (match g l with | some l => k l G | none => .bad) (fun ι' G' H' w => ∀ z, Rep K ι' G'.length H' w z → Q z H') := p2
          rw [e2] at p3
          obtain ⟨x, rfl, rx⟩ := reps1 rs
          obtain ⟨a, ys, ex, h1, h2⟩ := items_at S rx e
          exact ⟨a, ys, l, b, by rw [ex], h1, h2, e2, p3⟩
theorem bind_some {α : Type} (o : Option α) : o.bind some = o := by cases o <;> rfl
theorem s_list : CallS K E (fun xs H Q => ∃ p ys, xs = [.ref p] ∧ (SqL K H p ys ∨ SqT K H p ys) ∧ ∀ l, H l = none → Q (.ref l) (L2.upd H l (.lst ys))) bList := fun ι G H vs xs Q S rs p => by
  obtain ⟨a, ys, l, b, e, h1, h2, h3, p2⟩ := one_seq (g := some) (k := fun l G => alloc (.lst l) G) (f := bList) (fun vs G => by unfold bList; cases vs with | nil => rfl | cons v l => cases l with | nil => (simp only [bind_some]; cases itemsOf G v <;> rfl) | cons _ _ => rfl) S rs p
  cases h3
  exact ⟨a, ys, e, h1, post_lst S h2 p2⟩
theorem s_tuple : CallS K E (fun xs H Q => ∃ p ys, xs = [.ref p] ∧ ((SqL K H p ys ∧ ∀ l, H l = none → Q (.ref l) (L2.upd H l (.tup ys))) ∨ (SqT K H p ys ∧ Q (.ref p) H))) bTuple := fun ι G H vs xs Q S rs p => by
  obtain ⟨a, ys, l, b, e, h1, h2, h3, p2⟩ := one_seq (g := some) (k := fun l G => .ok (.tup l) G) (f := bTuple) (fun vs G => by unfold bTuple; cases vs with | nil => rfl | cons v l => cases l with | nil => (simp only [bind_some]; cases itemsOf G v <;> rfl) | cons _ _ => rfl) S rs p
  cases h3
  refine ⟨a, ys, e, ?_⟩
  rcases h1 with h1 | h1
  · exact .inl ⟨h1, post_tup S h2 p2⟩
  · exact .inr ⟨h1, p2.here S _ ⟨a, ys, rfl, h1, h2⟩⟩
end
end R1

/-! R1d: statements, targets, calls of defs, methods and classes. -/
namespace R1
open PySem PySem.Spec PyProof.Rows L2

inductive SR where
  | next (ρ : Env1) (G : Store) | ret (v : Val) (G : Store) | brk (ρ : Env1) (G : Store) | cont (ρ : Env1) (G : Store) | exc (c : Str) (G : Store) | bad
abbrev SM := Env1 → Store → SR
def SR.andThen (r : SR) (f : SM) : SR := match r with
  | .next ρ G => f ρ G
  | r => r
def Res.toS {α : Type} (r : Res α) (f : α → Store → SR) : SR := match r with
  | .ok a G => f a G
  | .exc c G => .exc c G
  | .bad => .bad
section
variable (K : PySem.W.Frag) (E : XK) (ι : Nat → Addr) (n : Nat) (H : Hp)
def SPost (r : SR) (D : Ends) : Prop := match r with
  | .next ρ' G' => ∀ ι' H' σ', Ext K ι n H ι' G'.length H' → Sim K ι' G' H' → Slots K ι' G'.length H' ρ' σ' → D.nx σ' H'
  | .ret v G' => ∀ ι' H' x, Ext K ι n H ι' G'.length H' → Sim K ι' G' H' → Rep K ι' G'.length H' v x → D.rt x H'
  | .brk ρ' G' => ∀ ι' H' σ', Ext K ι n H ι' G'.length H' → Sim K ι' G' H' → Slots K ι' G'.length H' ρ' σ' → D.bk σ' H'
  | .cont ρ' G' => ∀ ι' H' σ', Ext K ι n H ι' G'.length H' → Sim K ι' G' H' → Slots K ι' G'.length H' ρ' σ' → D.ct σ' H'
  | .exc c G' => ∀ ι' H', Ext K ι n H ι' G'.length H' → Sim K ι' G' H' → E (.ref (He.ga K c)) none H'
  | .bad => False
end
def tS (K : PySem.W.Frag) (E : XK) (m : SM) : TS := fun D σ H => ∃ ι G ρ, Sim K ι G H ∧ Slots K ι G.length H ρ σ ∧ SPost K E ι G.length H (m ρ G) D
abbrev RS (X : Cx) (E : XK) (st : Stmt) (m : SM) : Prop := PS X st (tS X.K E m)
abbrev RSs (X : Cx) (E : XK) (st : List Stmt) (m : SM) : Prop := PSs X st (tS X.K E m)
section
variable {K : PySem.W.Frag} {E : XK} {ι ι' : Nat → Addr} {n n' : Nat} {H H' : Hp}
theorem SPost.ext {r : SR} {D : Ends} (x : Ext K ι n H ι' n' H') (h : SPost K E ι n H r D) : SPost K E ι' n' H' r D := by
  cases r with
  | next ρ' G' => exact fun ι2 H2 σ2 e s l => h ι2 H2 σ2 (x.trans e) s l
  | ret v G' => exact fun ι2 H2 σ2 e s l => h ι2 H2 σ2 (x.trans e) s l
  | brk ρ' G' => exact fun ι2 H2 σ2 e s l => h ι2 H2 σ2 (x.trans e) s l
  | cont ρ' G' => exact fun ι2 H2 σ2 e s l => h ι2 H2 σ2 (x.trans e) s l
  | exc c G' => exact fun ι2 H2 e s => h ι2 H2 (x.trans e) s
  | bad => exact h
theorem SPost.seq {r : SR} {f : SM} {D : Ends} (h : SPost K E ι n H (r.andThen f) D) : SPost K E ι n H r { D with nx := tS K E f D } := by
  cases r with
  | next ρ' G' => exact fun ι2 H2 σ2 e s l => ⟨ι2, G', ρ', s, l, SPost.ext e h⟩
  | ret v G' => exact h
  | brk ρ' G' => exact h
  | cont ρ' G' => exact h
  | exc c G' => exact h
  | bad => exact h
theorem SPost.ofRes {α : Type} {r : Res α} {f : α → Store → SR} {D : Ends} (h : SPost K E ι n H (r.toS f) D) : Post K E ι n H r fun ι' G' H' v => SPost K E ι' G'.length H' (f v G') D := by
  cases r with
  | ok v G' => exact fun ι' H' e s => SPost.ext e h
  | exc c G' => exact h
  | bad => exact h
/-- another end that is reached from the first -/
theorem SPost.to {r : SR} {D D' : Ends} (h : SPost K E ι n H r D) (h1 : ∀ σ H, D.nx σ H → D'.nx σ H) (h2 : ∀ x H, D.rt x H → D'.rt x H) (h3 : ∀ σ H, D.bk σ H → D'.bk σ H) (h4 : ∀ σ H, D.ct σ H → D'.ct σ H) : SPost K E ι n H r D' := by
  cases r with
  | next ρ' G' => exact fun ι2 H2 σ2 e s l => h1 _ _ (h ι2 H2 σ2 e s l)
  | ret v G' => exact fun ι2 H2 σ2 e s l => h2 _ _ (h ι2 H2 σ2 e s l)
  | brk ρ' G' => exact fun ι2 H2 σ2 e s l => h3 _ _ (h ι2 H2 σ2 e s l)
  | cont ρ' G' => exact fun ι2 H2 σ2 e s l => h4 _ _ (h ι2 H2 σ2 e s l)
  | exc c G' => exact h
  | bad => exact h
end

/-! ### small statements -/
def sPass : SM := fun ρ G => .next ρ G
def sSeq (a b : SM) : SM := fun ρ G => (a ρ G).andThen b
def sEx (m : EM) : SM := fun ρ G => (m ρ G).toS fun _ G1 => .next ρ G1
def sRet (m : EM) : SM := fun ρ G => (m ρ G).toS fun v G1 => .ret v G1
def sRetN : SM := fun _ G => .ret .non G
def sBrk : SM := fun ρ G => .brk ρ G
def sCont : SM := fun ρ G => .cont ρ G
def sIf (t : TM) (a b : SM) : SM := fun ρ G => (t ρ G).toS fun k G1 => if k = true then a ρ G1 else b ρ G1
def sSet (i : Nat) (m : EM) : SM := fun ρ G => (m ρ G).toS fun v G1 => .next (ρ.set i (some v)) G1
section
variable {X : Cx} {E : XK} {st : Stmt} {rest : List Stmt} {m k : SM} {e c : Expr} {me : EM} {mt : TM} {pos : Pos}
theorem rs_nil : RSs X E [] sPass := pss_weak pss_nil fun D σ H ⟨ι, G, ρ, S, sl, p⟩ => p ι H σ .refl S sl
theorem rs_one (h : RS X E st m) : RSs X E [st] m := pss_one h
theorem rs_cons (h1 : RS X E st m) (h2 : RSs X E rest k) : RSs X E (st :: rest) (sSeq m k) := pss_weak (pss_cons h1 h2) fun D σ H ⟨ι, G, ρ, S, sl, p⟩ => ⟨ι, G, ρ, S, sl, p.seq⟩
theorem rs_pass : RS X E (.Pass pos) sPass := ps_weak ps_pass fun D σ H ⟨ι, G, ρ, S, sl, p⟩ => p ι H σ .refl S sl
theorem rs_break : RS X E (.Break pos) sBrk := ps_weak ps_break fun D σ H ⟨ι, G, ρ, S, sl, p⟩ => p ι H σ .refl S sl
theorem rs_cont : RS X E (.Continue pos) sCont := ps_weak ps_continue fun D σ H ⟨ι, G, ρ, S, sl, p⟩ => p ι H σ .refl S sl
theorem rs_ex (h : RE X E e me) (hs : swapsWith e none pos.line X.env = pure false := by rfl) : RS X E (.Expr e pos) (sEx me) :=
  ps_weak (ps_expr h hs) fun D σ H ⟨ι, G, ρ, S, sl, p⟩ => run1 S sl (p.ofRes.mono fun ι1 G1 H1 v x1 S1 p1 x rx => p1 ι1 H1 σ .refl S1 (sl.ext x1))
theorem rs_ret (h : RE X E e me) : RS X E (.Return (some e) pos) (sRet me) :=
  ps_weak (ps_ret h) fun D σ H ⟨ι, G, ρ, S, sl, p⟩ => run1 S sl (p.ofRes.mono fun ι1 G1 H1 v x1 S1 p1 x rx => p1 ι1 H1 x .refl S1 rx)
theorem rs_retN : RS X E (.Return none pos) sRetN := ps_weak ps_retN fun D σ H ⟨ι, G, ρ, S, sl, p⟩ => p ι H .non .refl S rfl
theorem rs_if {a b : List Stmt} (hc : RT X E c mt) (ha : RSs X E a m) (hb : RSs X E b k) : RS X E (.If c a b pos) (sIf mt m k) :=
  ps_weak (ps_if hc ha hb) fun D σ H ⟨ι, G, ρ, S, sl, p⟩ => ⟨ι, G, ρ, S, sl, p.ofRes.mono fun ι1 G1 H1 b x1 S1 p1 => by
    cases b with
    | true => exact ⟨ι1, G1, ρ, S1, sl.ext x1, p1⟩
    | false => exact ⟨ι1, G1, ρ, S1, sl.ext x1, p1⟩⟩
theorem rs_set {i : Nat} {x : Str} {pos' : Pos} (hN : X.N.Nodup) (hi : X.N[i]? = some x) (hx : Loc X.env.scope x) (he : RE X E e me) (hs : swapsWith e (some (.Name x pos')) pos.line X.env = pure false := by rfl) (hf : X.fn x = true ∨ X.env.scope.names.lookup x = some .local := by first | exact .inl rfl | exact .inr rfl | assumption) :
    RS X E (.Assign [.Name x pos'] e pos) (sSet i me) :=
  ps_weak (ps_set hN hi hx he hs hf) fun D σ H ⟨ι, G, ρ, S, sl, p⟩ => run1 S sl (p.ofRes.mono fun ι1 G1 H1 v x1 S1 p1 x rx => p1 ι1 H1 (σ.set i (some x)) .refl S1 ((sl.ext x1).set rx i))
/-- what is never reached -/
def sNever : SM := fun _ _ => .bad
theorem rs_never : RS X E st sNever := ps_weak ps_never fun D σ H ⟨ι, G, ρ, S, sl, p⟩ => p
theorem rss_never : RSs X E rest sNever := pss_weak pss_never fun D σ H ⟨ι, G, ρ, S, sl, p⟩ => p
end

/-! ### targets: a name, names -/
/-- a name's slot, or several -/
inductive Pt where
  | nm (i : Nat) | tup (l : List Nat)
def setAll : List Nat → List Val → Env1 → Option Env1
  | [], [], ρ => some ρ
  | i :: is, v :: vs, ρ => setAll is vs (ρ.set i (some v))
  | _, _, _ => none
def ptSet (G : Store) : Pt → Val → Env1 → Option Env1
  | .nm i, v, ρ => some (ρ.set i (some v))
  | .tup l, .tup vs, ρ => setAll l vs ρ
  | .tup _, _, _ => none
def Pt.slots : Pt → List Nat
  | .nm i => [i]
  | .tup l => l
def tG (K : PySem.W.Frag) (p : Pt) : TG := fun x σ H Q => ∃ ι G v ρ ρ', Sim K ι G H ∧ Rep K ι G.length H v x ∧ Slots K ι G.length H ρ σ ∧ ptSet G p v ρ = some ρ' ∧
  ∀ σ', Slots K ι G.length H ρ' σ' → σ'.length = σ.length → (∀ j, j ∉ p.slots → σ'[j]? = σ[j]?) → Q σ' H
abbrev RG (X : Cx) (e : Expr) (p : Pt) : Prop := PG X e (tG X.K p)
theorem pg_weak {X : Cx} {e : Expr} {t t' : TG} (h : PG X e t) (w : ∀ x σ H Q, t' x σ H Q → t x σ H Q) : PG X e t' := ⟨fun pins s σ H v u Q I r q => h.run pins s σ H v u Q I r (w _ _ _ _ q)⟩
/-- names, one behind another -/
def tGs (K : PySem.W.Frag) (l : List Nat) : TGs := fun xs σ H Q => ∃ ι G vs ρ ρ', Sim K ι G H ∧ Reps K ι G.length H vs xs ∧ Slots K ι G.length H ρ σ ∧ setAll l vs ρ = some ρ' ∧
  ∀ σ', Slots K ι G.length H ρ' σ' → σ'.length = σ.length → (∀ j, j ∉ l → σ'[j]? = σ[j]?) → Q σ' H
abbrev RGs (X : Cx) (es : List Expr) (l : List Nat) : Prop := PGs X es (tGs X.K l)
theorem pgs_weak {X : Cx} {es : List Expr} {t t' : TGs} (h : PGs X es t) (w : ∀ x σ H Q, t' x σ H Q → t x σ H Q) : PGs X es t' := ⟨fun pins s σ H v u Q I r q => h.run pins s σ H v u Q I r (w _ _ _ _ q)⟩
section
variable {X : Cx} {E : XK} {pos : Pos}
theorem rg_name {i : Nat} {x : Str} (hN : X.N.Nodup) (hi : X.N[i]? = some x) (hx : Loc X.env.scope x) (hf : X.fn x = true ∨ X.env.scope.names.lookup x = some .local := by first | exact .inl rfl | exact .inr rfl | assumption) : RG X (.Name x pos) (.nm i) :=
  pg_weak (pg_name hN hi hx hf) fun x σ H Q ⟨ι, G, v, ρ, ρ', S, r, sl, e, k⟩ => by
    cases e
    exact k (σ.set i (some x)) (sl.set r i) (List.length_set ..) fun j hj => List.getElem?_set_ne fun q => hj (by rw [← q]; exact List.mem_singleton_self _)
theorem rgs_nil : RGs X [] [] := pgs_weak pgs_nil fun xs σ H Q ⟨ι, G, vs, ρ, ρ', S, r, sl, e, k⟩ => by
  cases vs with
  | nil =>
    cases e
    exact ⟨r, k σ sl rfl fun _ _ => rfl⟩
  | cons _ _ => cases e
theorem rgs_cons {i : Nat} {l : List Nat} {x : Str} {es : List Expr} (hN : X.N.Nodup) (hi : X.N[i]? = some x) (hx : Loc X.env.scope x) (h2 : RGs X es l)
    (hf : X.fn x = true ∨ X.env.scope.names.lookup x = some .local := by first | exact .inl rfl | exact .inr rfl | assumption) (hs : assignEach (.Name x pos :: es) X.env = (false, assign (.Name x pos) X.env) :: assignEach es X.env := by rfl) : RGs X (.Name x pos :: es) (i :: l) :=
  pgs_weak (pgs_cons (pg_name hN hi hx hf) h2 (by first | exact hs | rfl)) fun xs σ H Q ⟨ι, G, vs, ρ, ρ', S, r, sl, e, k⟩ => by
    cases vs with
    | nil => cases e
    | cons v vs =>
      obtain ⟨y, ys, h1, h3, h4⟩ := r
      refine ⟨y, ys, h1, ι, G, vs, ρ.set i (some v), ρ', S, h4, sl.set h3 i, e, fun σ' a b c => k σ' a (b.trans (List.length_set ..)) fun j hj => ?_⟩
      have hj1 : j ∉ l := fun q => hj (List.mem_cons_of_mem _ q)
      have hj2 : i ≠ j := fun q => hj (by rw [q]; exact List.mem_cons_self ..)
      rw [c j hj1, List.getElem?_set_ne hj2]
theorem rg_tup {es : List Expr} {k : Nat} {l : List Nat} (hc : X.calm = true) (h : RGs X es l) (hn : (assignEach es X.env).length = l.length := by rfl) (hst : (assignEach es X.env).findIdx? (·.1) = none := by rfl) : RG X (.Tuple es k pos) (.tup l) :=
  pg_weak (pg_tup hc h hn hst) fun x σ H Q ⟨ι, G, v, ρ, ρ', S, r, sl, e, k⟩ => by
    cases v with
    | tup vs =>
      obtain ⟨a, xs, e1, h1, h2⟩ := r
      have len : ∀ {is : List Nat} {vs : List Val} {ρ ρ' : Env1}, setAll is vs ρ = some ρ' → vs.length = is.length := by
        intro is
        induction is with
        | nil => intro vs ρ ρ' h; cases vs with | nil => rfl | cons _ _ => cases h
        | cons i is ih => intro vs ρ ρ' h; cases vs with | nil => cases h | cons v vs => exact congrArg Nat.succ (ih h)
      refine ⟨a, xs, e1, h1, ?_, ι, G, vs, ρ, ρ', S, h2, sl, e, k⟩
      rw [h2.length]
      exact len e
    | _ => cases e
/-- a, b = e -/
def sUn (p : Pt) (m : EM) : SM := fun ρ G => (m ρ G).toS fun v G1 => match ptSet G1 p v ρ with
  | some ρ' => .next ρ' G1
  | none => .bad
theorem rs_un {tg e : Expr} {me : EM} {p : Pt} (he : RE X E e me) (hg : RG X tg p) (hs : swapsWithSole [tg] e pos.line X.env = pure false := by rfl) (hw : swappedStores [tg] e X.env = pure none := by rfl)
    (h1 : (assignEach [tg] X.env).map (·.2) = [assign tg X.env] := by rfl) : RS X E (.Assign [tg] e pos) (sUn p me) :=
  ps_weak (ps_asg he hg hs hw h1) fun D σ H ⟨ι, G, ρ, S, sl, q⟩ => run1 S sl (q.ofRes.mono fun ι1 G1 H1 v x1 S1 p1 x rx => by
    cases e : ptSet G1 p v ρ with
    | none => rw [e] at p1; exact p1.elim
    | some ρ' =>
      rw [e] at p1
      exact ⟨ι1, G1, v, ρ, ρ', S1, rx, sl.ext x1, e, fun σ' a _ _ => p1 ι1 H1 σ' .refl S1 a⟩)
/-- a, b = e1, e2 -/
def sPar (i j : Nat) (k : AM) : SM := fun ρ G => (k ρ G).toS fun vs G1 => match vs with
  | [v, w] => .next ((ρ.set i (some v)).set j (some w)) G1
  | _ => .bad
theorem rs_par {i j : Nat} {x y : Str} {a b : Expr} {ma : AM} {px py pt : Pos} {kt k2 pt2} (hc : X.calm = true) (hN : X.N.Nodup) (hi : X.N[i]? = some x) (hj : X.N[j]? = some y) (hij : i ≠ j)
    (hx : X.env.scope.names.lookup x = some .local) (hy : X.env.scope.names.lookup y = some .local) (ha : RA X E [a, b] ma)
    (hw : swappedStores [.Tuple [.Name x px, .Name y py] kt pt] (.Tuple [a, b] k2 pt2) X.env = pure (some [x, y]))
    (hs : swapsWithSole [.Tuple [.Name x px, .Name y py] kt pt] (.Tuple [a, b] k2 pt2) pos.line X.env = pure false := by rfl) : RS X E (.Assign [.Tuple [.Name x px, .Name y py] kt pt] (.Tuple [a, b] k2 pt2) pos) (sPar i j ma) :=
  ps_weak (ps_par hc hN hi hj hij hx hy ha hw hs) fun D σ H ⟨ι, G, ρ, S, sl, q⟩ => ⟨ι, G, ρ, S, sl, q.ofRes.mono fun ι1 G1 H1 vs x1 S1 p1 xs rxs => by
    cases vs with
    | nil => exact p1.elim
    | cons v vs =>
      cases vs with
      | nil => exact p1.elim
      | cons w vs =>
        cases vs with
        | cons _ _ => exact p1.elim
        | nil =>
          obtain ⟨x, y, e, rx, ry⟩ := reps2 rxs
          exact ⟨x, y, e, p1 ι1 H1 _ .refl S1 (((sl.ext x1).set rx i).set ry j)⟩⟩
end

/-! ### fields, places are given values -/
/-- self.f = e, self an instance of the class c, f its field at the place p -/
def setFld (c p : Nat) (o v : Val) (G : Store) : Option Store := match o with
  | .obj i => (match G[i]? with
    | some (.ins c' vs) => if c' = c ∧ p ≤ vs.length then some (G.set i (.ins c (if p < vs.length then vs.set p v else vs ++ [v]))) else none
    | _ => none)
  | _ => none
def sFld1 (c p : Nat) (o m : EM) : SM := fun ρ G => (m ρ G).toS fun v G1 => (o ρ G1).toS fun w G2 => match setFld c p w v G2 with
  | some G3 => .next ρ G3
  | none => .bad
section
variable {X : Cx} {E : XK} {o e : Expr} {mo me : EM} {pos pos' : Pos}
theorem setFld_ok {K : PySem.W.Frag} {ι : Nat → Addr} {G G' : Store} {H : Hp} {c p : Nat} {f : Str} {w v : Val} {x y : V} (S : Sim K ι G H) (rw_ : Rep K ι G.length H w x) (rv : Rep K ι G.length H v y) (hf : (cfields c)[p]? = some f) (h : setFld c p w v G = some G') :
    ∃ a dx gs, x = .ref a ∧ H a = some (.ins (He.ga K (cname c)) dx gs) ∧ ClsOk K c ∧ gs.length < 1000 ∧ Sim K ι G' (L2.upd H a (.ins (He.ga K (cname c)) dx (putF f y gs))) ∧ Ext K ι G.length H ι G'.length (L2.upd H a (.ins (He.ga K (cname c)) dx (putF f y gs))) := by
  cases w with
  | obj i =>
    have h0 : (match G[i]? with | some (.ins c' vs) => (if c' = c ∧ p ≤ vs.length then some (G.set i (.ins c (if p < vs.length then vs.set p v else vs ++ [v]))) else none) | _ => none) = some G' := h
    cases e : G[i]? with
    | none => rw [e] at h0; cases h0
    | some ob =>
      rw [e] at h0
      cases ob with
      | ins c' vs =>
        have h1 : (if c' = c ∧ p ≤ vs.length then some (G.set i (.ins c (if p < vs.length then vs.set p v else vs ++ [v]))) else none) = some G' := h0
        by_cases hc : c' = c ∧ p ≤ vs.length
        · rw [if_pos hc] at h1
          cases h1
          obtain ⟨rfl, hp⟩ := hc
          obtain ⟨ck, dx, gs, g1, g2⟩ := S.ins e
          have hl := g2.length
          have hfo := fields_ok c'
          obtain ⟨s1, s2⟩ := S.set (u := .ins (He.ga K (cname c')) dx (putF f y gs)) (o := .ins c' (if p < vs.length then vs.set p v else vs ++ [v])) e rfl
            ⟨ck, dx, _, upd_same, (g2.put rv hfo.1 hf hp).ext (Ext.updE (.some g1 trivial))⟩
          exact ⟨ι i, dx, gs, rw_.2, g1, ck, by omega, s1, s2⟩
        · rw [if_neg hc] at h1
          cases h1
      | _ => cases h0
  | _ => cases h
theorem rs_fld {c p : Nat} {f : Str} (hf : (cfields c)[p]? = some f) (ho : RE X E o mo) (he : RE X E e me) (hs : swapsWith e (some (.Attribute o f pos')) pos.line X.env = pure false := by rfl) : RS X E (.Assign [.Attribute o f pos'] e pos) (sFld1 c p mo me) :=
  ps_weak (ps_fld ho he hs) fun D σ H ⟨ι, G, ρ, S, sl, q⟩ => run1 S sl (q.ofRes.mono fun ι1 G1 H1 v x1 S1 p1 y ry => run1 S1 (sl.ext x1) (p1.ofRes.mono fun ι2 G2 H2 w x2 S2 p2 x rx => by
    cases e : setFld c p w v G2 with
    | none => rw [e] at p2; exact p2.elim
    | some G3 =>
      rw [e] at p2
      obtain ⟨a, dx, gs, e1, e2, ck, hl, s3, e3⟩ := setFld_ok S2 rx (ry.ext x2) hf e
      exact ⟨a, _, dx, gs, e1, e2, ck.cls, ck.fld f (List.mem_of_getElem? hf), hl, p2 ι2 _ σ e3 s3 (sl.ext ((x1.trans x2).trans e3))⟩))
end

/-! ### calls -/
/-- a def's promise: what m says -/
def spF (K : PySem.W.Frag) (np : Nat) (m : F1) : Sp := fun xs H Q E => ∃ ι G vs, Sim K ι G H ∧ Reps K ι G.length H vs xs ∧ vs.length = np ∧ Post K E ι G.length H (m vs G) fun ι' G' H' v => ∀ x, Rep K ι' G'.length H' v x → Q x H'
/-- plain values as they lie -/
def Dfl (dv : List Val) (ds : List Value) : Prop := dv.all plain1 = true ∧ Vals (dv.map pv1) ds
section
variable (P : Program) (w : World) (K : PySem.W.Frag) (mg : Str → Option Value) (base : Heap) (CX : CXT)
/-- the module's def x does what f says (dv: the defaults of the parameters that are left out) -/
structure GF (k : Nat) (x : Str) (np : Nat) (f : F1) (dv : List Val) : Prop where
  ex : ∃ (fa : Addr) (fd : FuncData) (ps : List Str) (ds : List Value), mg x = some (.ref fa) ∧ PySem.W.keepIn K (.ref fa) = true ∧ FnOk P w K mg base CX k fa fd ps (spF K np f) ∧ Binds K fd ps ds ∧ Dfl dv ds
/-- the method m of the class c -/
structure MF (k : Nat) (c : Nat) (m : Str) (np : Nat) (f : F1) (dv : List Val) : Prop where
  nf : m ∉ cfields c
  cls : Cls K (He.ga K (cname c))
  ex : ∃ (fa : Addr) (fd : FuncData) (ps : List Str) (ds : List Value), Meth K (He.ga K (cname c)) m fa ∧ FnOk P w K mg base CX k fa fd ps (spF K np f) ∧ Binds K fd ps ds ∧ Dfl dv ds
/-- the class c is made: f its __init__ -/
structure CF (k : Nat) (c : Nat) (np : Nat) (f : F1) (dv : List Val) : Prop where
  ok : ClsOk K c
  glo : mg (cname c) = some (.ref (He.ga K (cname c)))
  ex : ∃ (fa : Addr) (fd : FuncData) (ps : List Str) (ds : List Value), Mk K (He.ga K (cname c)) fa ∧ FnOk P w K mg base CX k fa fd ps (spF K np f) ∧ Binds K fd ps ds ∧ Dfl dv ds
end
theorem reps_dfl {K : PySem.W.Frag} {ι : Nat → Addr} {n : Nat} {H : Hp} : ∀ {dv : List Val}, dv.all plain1 = true → Reps K ι n H dv (dv.map pv1)
  | [], _ => rfl
  | v :: l, h => by
    obtain ⟨h1, h2⟩ := Bool.and_eq_true_iff.mp (show (plain1 v && l.all plain1) = true from h)
    exact ⟨pv1 v, l.map pv1, rfl, (rep_plain h1).mpr rfl, reps_dfl h2⟩
/-- a call of f with the defaults dv behind the values -/
def eCallF (f : F1) (dv : List Val) (k : AM) : EM := fun ρ G => (k ρ G).bind fun vs G1 => f (vs ++ dv) G1
/-- a method by the receiver's class -/
def eMeth (tb : List (Nat × F1)) (dv : List Val) (o : EM) (k : AM) : EM := fun ρ G => (o ρ G).bind fun w G1 => match w with
  | .obj i => (match G1[i]? with
    | some (.ins c _) => (match tb.lookup c with
      | some f => (k ρ G1).bind fun vs G2 => f (w :: (vs ++ dv)) G2
      | none => .bad)
    | _ => .bad)
  | _ => .bad
/-- a new instance -/
def eMake (c : Nat) (f : F1) (dv : List Val) (k : AM) : EM := fun ρ G => (k ρ G).bind fun vs G1 => (f (.obj G1.length :: (vs ++ dv)) (G1 ++ [.ins c []])).bind fun v G2 => match v with
  | .non => .ok (.obj G1.length) G2
  | _ => .bad
section
variable {X : Cx} {CX : CXT} {E : XK} {k np : Nat} {x m : Str} {f : F1} {dv : List Val} {e o : Expr} {es : List Expr} {mo : EM} {mes : AM} {p pos apos : Pos}
/-- f is asked with np values alone -/
def Arity (np : Nat) (f : F1) : Prop := ∀ vs G, vs.length ≠ np → f vs G = .bad
theorem re_call (F : GF X.prog X.w X.K X.mg X.base CX k x np f dv) (ar : Arity np f) (hr : Room k X.A) (hg : Gl X x) (hx : Passes CX X E) (ha : RA X E (e :: es) mes) (hdb : (x == ("__debug__" : Str)) = false := by decide)
    (he : starEach (e :: es) X.env = (false, eval e X.env) :: starEach es X.env := by rfl) (hpl : (backTo pos (starEach es X.env)).any (·.1) = false := by rfl) : RE X E (.Call (.Name x p) (e :: es) [] pos) (eCallF f dv mes) := by
  obtain ⟨fa, fd, ps, ds, hm, hk, F, hb, hpd, hd⟩ := F.ex
  refine pe_weak (pe_call F hr hg hm hk hb hd hx ha hdb he hpl) fun σ H Q ⟨ι, G, ρ, S, sl, q⟩ => ⟨ι, G, ρ, S, sl, (Post.bind q).mono fun ι1 G1 H1 vs x1 S1 p1 xs rx => ⟨ι1, G1, vs ++ dv, S1, rx.append (reps_dfl hpd), ?_, p1⟩⟩
  by_cases h : (vs ++ dv).length = np
  · exact h
  · rw [ar _ _ h] at p1
    exact p1.elim
theorem re_call0 (F : GF X.prog X.w X.K X.mg X.base CX k x np f dv) (ar : Arity np f) (hr : Room k X.A) (hg : Gl X x) (hx : Passes CX X E) (hdb : (x == ("__debug__" : Str)) = false := by decide) : RE X E (.Call (.Name x p) [] [] pos) (eCallF f dv aNil) := by
  obtain ⟨fa, fd, ps, ds, hm, hk, F, hb, hpd, hd⟩ := F.ex
  refine pe_weak (pe_call0 F hr hg hm hk hb hd hx hdb) fun σ H Q ⟨ι, G, ρ, S, sl, q⟩ => ?_
  have p1 : Post X.K E ι G.length H (f ([] ++ dv) G) (fun ι' G' H' v => ∀ x, Rep X.K ι' G'.length H' v x → Q x H') := q
  refine ⟨ι, G, [] ++ dv, S, reps_dfl hpd, ?_, p1⟩
  by_cases h : ([] ++ dv).length = np
  · exact h
  · rw [ar _ _ h] at p1
    exact p1.elim
theorem meth_w {c : Nat} {sp : Sp} (h : MF X.prog X.w X.K X.mg X.base CX k c m np f dv) (hsp : sp = spF X.K np f) (ar : Arity np f) (hp : dv.all plain1 = true) : ∀ σ H Q, tE X.K E (eMeth [(c, f)] dv mo mes) σ H Q → tMeth (He.ga X.K (cname c)) m sp (dv.map pv1) E (tE X.K E mo) (tA X.K E mes) σ H Q := fun σ H Q ⟨ι, G, ρ, S, sl, q⟩ => by
  subst hsp
  refine run1 S sl ((Post.bind q).mono fun ι1 G1 H1 w x1 S1 p1 x rx => ?_)
  cases w with
  | obj i =>
    cases e1 : G1[i]? with
    | none => simp only [e1] at p1; exact p1.elim
    | some ob =>
      simp only [e1] at p1
      cases ob with
      | ins c' vs =>
        by_cases hc : c' = c
        · subst hc
          have e2 : [(c', f)].lookup c' = some f := by rw [List.lookup_cons, beq_self_eq_true]
          dsimp only at p1
          rw [e2] at p1
          obtain ⟨ck, dx, gs, g1, g2⟩ := S1.ins e1
          refine ⟨ι1 i, dx, gs, rx.2, g1, g2.none h.nf, ι1, G1, ρ, S1, sl.ext x1, (Post.bind p1).mono fun ι2 G2 H2 ws x2 S2 p2 ys rys => ⟨ι2, G2, .obj i :: (ws ++ dv), S2, ⟨x, _, rfl, rx.ext x2, rys.append (reps_dfl hp)⟩, ?_, p2⟩⟩
          by_cases h : (Val.obj i :: (ws ++ dv)).length = np
          · exact h
          · rw [ar _ _ h] at p2
            exact p2.elim
        · have e2 : [(c, f)].lookup c' = none := by rw [List.lookup_cons, beq_false_of_ne hc]; rfl
          have p2 : Post X.K E ι1 G1.length H1 (match [(c, f)].lookup c' with | some f => (mes ρ G1).bind fun vs G2 => f (Val.obj i :: (vs ++ dv)) G2 | none => Res.bad) fun ι' G' H' v => ∀ (x : V), Rep X.K ι' (List.length G') H' v x → Q x H' := p1
          rw [e2] at p2
          exact p2.elim
      | _ => exact p1.elim
  | _ => exact p1.elim
theorem re_meth {c : Nat} {pl : Sem Bool} (ho : RE X E o mo) (F : MF X.prog X.w X.K X.mg X.base CX k c m np f dv) (ar : Arity np f) (hr : Room k X.A) (hx : Passes CX X E) (ha : RA X E (e :: es) mes)
    (hst : starEach (e :: es) X.env = (false, eval e X.env) :: starEach es X.env := by rfl) (hpl : (backTo pos (starEach es X.env)).any (·.1) = false := by rfl)
    (ht : eval (.Call (.Attribute o m apos) (e :: es) [] pos) X.env = (do
      let ov ← eval o X.env
      standAt apos.atName
      let (f, first) ← holding [ov] (getMethod ov m pl)
      callWith pos f first (backTo pos (starEach (e :: es) X.env)) (backToKw pos (keywordEach [] X.env))) := by rfl) : RE X E (.Call (.Attribute o m apos) (e :: es) [] pos) (eMeth [(c, f)] dv mo mes) := by
  obtain ⟨fa, fd, ps, ds, hm, F1, hb, hpd, hd⟩ := F.ex
  exact pe_weak (pe_meth ho F.cls hm F1 hr hb hd hx ha hst hpl ht) (meth_w F rfl ar hpd)
theorem re_meth0 {c : Nat} {pl : Sem Bool} (ho : RE X E o mo) (F : MF X.prog X.w X.K X.mg X.base CX k c m np f dv) (ar : Arity np f) (hr : Room k X.A) (hx : Passes CX X E)
    (ht : eval (.Call (.Attribute o m apos) [] [] pos) X.env = (do
      let ov ← eval o X.env
      standAt apos.atName
      let (f, first) ← holding [ov] (getMethod ov m pl)
      callWith pos f first (backTo pos (starEach [] X.env)) (backToKw pos (keywordEach [] X.env))) := by rfl) : RE X E (.Call (.Attribute o m apos) [] [] pos) (eMeth [(c, f)] dv mo aNil) := by
  obtain ⟨fa, fd, ps, ds, hm, F1, hb, hpd, hd⟩ := F.ex
  refine pe_weak (pe_meth0 ho F.cls hm F1 hr hb hd hx ht) fun σ H Q h => ?_
  obtain ⟨ι, G, ρ, S, sl, q⟩ := meth_w (mes := aNil) F rfl ar hpd σ H Q h
  refine ⟨ι, G, ρ, S, sl, q.mono fun ι' G' H' v x' S' k1 x rx => ?_⟩
  obtain ⟨a, dx, fs, e1, e2, e3, ι2, G2, ρ2, S2, sl2, q2⟩ := k1 x rx
  exact ⟨a, dx, fs, e1, e2, e3, q2.here S2 [] rfl⟩
/-- one of several classes -/
theorem meth_cons {c : Nat} {tb : List (Nat × F1)} (h1 : RE X E e (eMeth [(c, f)] dv mo mes)) (h2 : RE X E e (eMeth tb dv mo mes)) : RE X E e (eMeth ((c, f) :: tb) dv mo mes) := by
  refine pe_weak (pe_orE h1 h2) fun σ H Q ⟨ι, G, ρ, S, sl, q⟩ => ?_
  unfold eMeth at q ⊢
  cases e0 : mo ρ G with
  | bad => simp only [e0] at q; exact q.elim
  | exc c0 G1 =>
    simp only [e0] at q
    exact .inl ⟨ι, G, ρ, S, sl, by simp only [e0]; exact q⟩
  | ok w G1 =>
    simp only [e0] at q
    cases w with
    | obj i =>
      cases e1 : G1[i]? with
      | none => simp only [Res.bind, e1] at q; exact q.elim
      | some ob =>
        cases ob with
        | ins c' vs =>
          simp only [Res.bind, e1, List.lookup_cons] at q
          cases hc : (c' == c) with
          | true =>
            simp only [hc] at q
            refine .inl ⟨ι, G, ρ, S, sl, ?_⟩
            simp only [e0, Res.bind, e1, List.lookup_cons, hc]
            exact q
          | false =>
            simp only [hc] at q
            refine .inr ⟨ι, G, ρ, S, sl, ?_⟩
            simp only [e0, Res.bind, e1]
            exact q
        | _ => simp only [Res.bind, e1] at q; exact q.elim
    | _ => exact q.elim
theorem make_w {c : Nat} {K : PySem.W.Frag} {ι : Nat → Addr} {G : Store} {H : Hp} {vs : List Val} {xs : List V} {Q : VK} (ok : ClsOk K c) (ar : Arity np f) (hp : dv.all plain1 = true) (S : Sim K ι G H) (r : Reps K ι G.length H vs xs)
    (q : Post K E ι G.length H ((f (.obj G.length :: (vs ++ dv)) (G ++ [.ins c []])).bind fun v G2 => match v with | .non => .ok (.obj G.length) G2 | _ => .bad) fun ι' G' H' v => ∀ x, Rep K ι' G'.length H' v x → Q x H') :
    ∀ x dx, H x = none → H dx = none → dx ≠ x → spF K np f (.ref x :: (xs ++ dv.map pv1)) (L2.upd (L2.upd H dx (.own x)) x (.ins (He.ga K (cname c)) dx [])) (fun v H2 => v = .non ∧ Q (.ref x) H2) E := fun x dx hx hdx hne => by
  have S1 : Sim K ι G (L2.upd H dx (.own x)) := S.junk hdx
  have hx1 : (L2.upd H dx (.own x)) x = none := by rw [upd_ne (Ne.symm hne)]; exact hx
  have x1 : Ext K ι G.length H ι G.length (L2.upd H dx (.own x)) := Ext.updE (.none hdx)
  have x2 : Ext K ι G.length (L2.upd H dx (.own x)) (into ι G.length x) (G.length + 1) (L2.upd (L2.upd H dx (.own x)) x (.ins (He.ga K (cname c)) dx [])) := Ext.push hx1
  have S2 : Sim K (into ι G.length x) (G ++ [.ins c []]) (L2.upd (L2.upd H dx (.own x)) x (.ins (He.ga K (cname c)) dx [])) := S1.push hx1 ⟨ok, dx, [], upd_same, by cases cfields c <;> exact rfl⟩
  have hl : (G ++ [Ob.ins c []]).length = G.length + 1 := by rw [List.length_append, List.length_singleton]
  have x3 : Ext K ι G.length H (into ι G.length x) (G ++ [Ob.ins c []]).length (L2.upd (L2.upd H dx (.own x)) x (.ins (He.ga K (cname c)) dx [])) := by
    rw [hl]
    exact x1.trans x2
  have q2 := Post.bind (Post.ext x3 q)
  refine ⟨into ι G.length x, G ++ [.ins c []], .obj G.length :: (vs ++ dv), S2, ⟨.ref x, _, rfl, ⟨by rw [hl]; exact Nat.lt_succ_self _, by rw [into_eq]⟩, (r.ext x3).append (reps_dfl hp)⟩, ?_, q2.mono fun ι4 G4 H4 v x4 S4 p4 z rz => ?_⟩
  · by_cases h : (Val.obj G.length :: (vs ++ dv)).length = np
    · exact h
    · rw [ar _ _ h] at q2
      exact q2.elim
  · cases v with
    | non =>
      refine ⟨rz, p4.here S4 _ ⟨Nat.lt_of_lt_of_le (by rw [hl]; exact Nat.lt_succ_self _) x4.le, ?_⟩⟩
      rw [x4.same G.length (by rw [hl]; exact Nat.lt_succ_self _), into_eq]
    | _ => exact p4.elim
theorem re_make {c : Nat} {y : Str} (F : CF X.prog X.w X.K X.mg X.base CX k c np f dv) (hy : cname c = y) (ar : Arity np f) (hr : Room (k + 1) X.A) (hg : Gl X y) (hx : Passes CX X E) (ha : RA X E (e :: es) mes) (hdb : (y == ("__debug__" : Str)) = false := by decide)
    (he : starEach (e :: es) X.env = (false, eval e X.env) :: starEach es X.env := by rfl) (hpl : (backTo pos (starEach es X.env)).any (·.1) = false := by rfl) : RE X E (.Call (.Name y p) (e :: es) [] pos) (eMake c f dv mes) := by
  obtain ⟨fa, fd, ps, ds, hM, F1, hb, hpd, hd⟩ := F.ex
  exact pe_weak (pe_make hM F1 hr hg (by rw [← hy]; exact F.glo) hb hd hx ha hdb he hpl) fun σ H Q ⟨ι, G, ρ, S, sl, q⟩ => ⟨ι, G, ρ, S, sl, (Post.bind q).mono fun ι1 G1 H1 vs x1 S1 p1 xs rxs => make_w F.ok ar hpd S1 rxs p1⟩
theorem re_make0 {c : Nat} {y : Str} (F : CF X.prog X.w X.K X.mg X.base CX k c np f dv) (hy : cname c = y) (ar : Arity np f) (hr : Room (k + 1) X.A) (hg : Gl X y) (hx : Passes CX X E) (hdb : (y == ("__debug__" : Str)) = false := by decide) : RE X E (.Call (.Name y p) [] [] pos) (eMake c f dv aNil) := by
  obtain ⟨fa, fd, ps, ds, hM, F1, hb, hpd, hd⟩ := F.ex
  exact pe_weak (pe_make0 hM F1 hr hg (by rw [← hy]; exact F.glo) hb hd hx hdb) fun σ H Q ⟨ι, G, ρ, S, sl, q⟩ => make_w (vs := []) (xs := []) F.ok ar hpd S rfl q
end

/-! ### a def's body -/
@[irreducible] def runDef (N np : Nat) (b : SM) : F1 := fun vs G => if vs.length = np then (match b (vs.map some ++ List.replicate (N - np) none) G with
  | .next _ G' => .ok .non G'
  | .ret v G' => .ok v G'
  | .exc c G' => .exc c G'
  | _ => .bad) else .bad
theorem runDef_ar {N np : Nat} {b : SM} : Arity np (runDef N np b) := fun vs G h => by
  unfold runDef
  exact if_neg h
section
variable {K : PySem.W.Frag} {ι : Nat → Addr} {n : Nat} {H : Hp}
theorem slots_none : ∀ k : Nat, Slots K ι n H (List.replicate k none) (List.replicate k none)
  | 0 => rfl
  | k + 1 => ⟨none, List.replicate k none, rfl, fun w h => (by cases h), slots_none k⟩
theorem slots_start {N : List Str} : ∀ {vs : List Val} {xs : List V} (k : Nat), Reps K ι n H vs xs → Slots K ι n H (vs.map some ++ List.replicate k none) (xs.map some ++ List.replicate k none)
  | [], _, k, h => by rw [show _ = [] from h]; exact slots_none k
  | v :: vs, _, k, ⟨y, ys, h1, h2, h3⟩ => by
    rw [h1]
    exact ⟨some y, _, rfl, fun w hw => ⟨y, rfl, by cases hw; exact h2⟩, slots_start (N := N) k h3⟩
theorem body_w {E : XK} {b : SM} {N : List Str} {np : Nat} {xs : List V} {Q : VK} (h : spF K np (runDef N.length np b) xs H Q E) : tS K E b { nx := fun _ H' => Q .non H', rt := Q } (start N xs) H := by
  obtain ⟨ι, G, vs, S, r, hl, p⟩ := h
  refine ⟨ι, G, vs.map some ++ List.replicate (N.length - np) none, S, ?_, ?_⟩
  · unfold L2.start
    rw [r.length, hl]
    exact slots_start (N := N) _ r
  · unfold runDef at p
    rw [if_pos hl] at p
    cases e : b (vs.map some ++ List.replicate (N.length - np) none) G with
    | next ρ' G' =>
      rw [e] at p
      exact fun ι' H' σ' x S' _ => p ι' H' x S' .non rfl
    | ret v G' =>
      rw [e] at p
      exact fun ι' H' x' x S' r' => p ι' H' x S' x' r'
    | exc c G' =>
      rw [e] at p
      exact p
    | brk ρ' G' => rw [e] at p; exact p.elim
    | cont ρ' G' => rw [e] at p; exact p.elim
    | bad => rw [e] at p; exact p.elim
end
section
variable {P : Program} {w : World} {K : PySem.W.Frag} {mg : Str → Option Value} {base : Heap} {CX : CXT} {x qual : Str} {params : Arguments} {body : List Stmt} {scope : Scope} {dvs : List V} {kws : List (Str × V)} {fa : Addr} {fd : FuncData} {N ps : List Str} {k : Nat} {b : SM}
theorem fn_ok (F : FunD K x qual params body scope dvs kws fa fd) (S : FnScope N ps scope)
    (hb : ∀ (cdv : Value) (A : Around) (outer : List Env) (s : Shared) (H : Hp) (E : XK), Room k (A.deeper (envOfC qual scope s.heap.objs.size fa cdv)) → RSs (cxOf CX P w K mg base N qual scope fa cdv A outer s H E) E body b) :
    FnOk P w K mg base CX (k + 1) fa fd ps (spF K ps.length (runDef N.length ps.length b)) :=
  F.ok S (fun vs H Q E ⟨ι, G, us, _, r, hl, _⟩ => by rw [r.length]; exact hl) fun cdv A outer s H vs Q E hr h => ⟨_, hb cdv A outer s H E hr, body_w h⟩
end
end R1

/-! R1e: loops, comprehensions. -/
namespace R1
open PySem PySem.Spec PyProof.Rows L2

/-! ### while -/
/-- n: more turns than it takes -/
def sWhile (t : TM) (b : SM) : Nat → SM
  | 0 => fun _ _ => .bad
  | n + 1 => fun ρ G => (t ρ G).toS fun k G1 => if k = true then (match b ρ G1 with
      | .next ρ' G' => sWhile t b n ρ' G'
      | .cont ρ' G' => sWhile t b n ρ' G'
      | .brk ρ' G' => .next ρ' G'
      | r => r) else .next ρ G1
section
variable {X : Cx} {E : XK} {c : Expr} {mt : TM} {body : List Stmt} {b : SM} {pos : Pos}
theorem rs_while (n : Nat) (hp : PassesOwn (model X.prog X.w) X.A X.env X.xe) (hc : RT X E c mt) (hb : RSs X E body b) : RS X E (.While c body [] pos) (sWhile mt b n) := by
  refine ps_weak (ps_while hp hc hb) fun D σ H ⟨ι, G, ρ, S, sl, p⟩ => ?_
  refine ⟨fun m σ H => ∃ ι G ρ, Sim X.K ι G H ∧ Slots X.K ι G.length H ρ σ ∧ SPost X.K E ι G.length H (sWhile mt b m ρ G) D, ⟨n, ι, G, ρ, S, sl, p⟩, ?_⟩
  rintro m σ H ⟨ι, G, ρ, S, sl, p⟩
  cases m with
  | zero => exact p.elim
  | succ m =>
    refine ⟨ι, G, ρ, S, sl, (SPost.ofRes p).mono fun ι1 G1 H1 k x1 S1 p1 => ?_⟩
    cases k with
    | false => exact p1 ι1 H1 σ .refl S1 (sl.ext x1)
    | true =>
      refine ⟨fun σ' H' => ∃ ι G ρ, Sim X.K ι G H' ∧ Slots X.K ι G.length H' ρ σ' ∧ SPost X.K E ι G.length H' (sWhile mt b m ρ G) D, fun σ' H' h => ⟨m, Nat.lt_succ_self _, h⟩, ι1, G1, ρ, S1, sl.ext x1, ?_⟩
      have p2 : SPost X.K E ι1 G1.length H1 (match b ρ G1 with
        | .next ρ' G' => sWhile mt b m ρ' G'
        | .cont ρ' G' => sWhile mt b m ρ' G'
        | .brk ρ' G' => .next ρ' G'
        | r => r) D := p1
      cases e : b ρ G1 with
      | next ρ' G' => rw [e] at p2; exact fun ι2 H2 σ2 x2 S2 l2 => ⟨ι2, G', ρ', S2, l2, p2.ext x2⟩
      | cont ρ' G' => rw [e] at p2; exact fun ι2 H2 σ2 x2 S2 l2 => ⟨ι2, G', ρ', S2, l2, p2.ext x2⟩
      | brk ρ' G' => rw [e] at p2; exact p2
      | ret v G' => rw [e] at p2; exact p2
      | exc c G' => rw [e] at p2; exact p2
      | bad => rw [e] at p2; exact p2
end

/-! ### for -/
/-- one turn: the target, the body; go on with k -/
def turn1 (p : Pt) (b : SM) (v : Val) (k : SM) : SM := fun ρ G => match ptSet G p v ρ with
  | none => .bad
  | some ρ1 => (match b ρ1 G with
    | .next ρ' G' => k ρ' G'
    | .cont ρ' G' => k ρ' G'
    | .brk ρ' G' => .next ρ' G'
    | r => r)
/-- over items that stand still -/
def forIt (p : Pt) (b : SM) : List Val → SM
  | [] => fun ρ G => .next ρ G
  | v :: r => turn1 p b v (forIt p b r)
/-- over the list i, as it stands at each turn -/
def forOb (p : Pt) (b : SM) (i : Nat) : List Val → Nat → SM
  | [], k => fun ρ G => match G[i]? with
    | some (.lst l) => if l.length ≤ k then .next ρ G else .bad
    | _ => .bad
  | _ :: r, k => fun ρ G => match G[i]? with
    | some (.lst l) => (match l[k]? with
      | some v => turn1 p b v (forOb p b i r (k + 1)) ρ G
      | none => .bad)
    | _ => .bad
/-- for p in m: b, a list -/
def sForL (m : EM) (p : Pt) (b : SM) : SM := fun ρ G => (m ρ G).toS fun v G1 => match v with
  | .fro l => forIt p b l ρ G1
  | .obj i => (match G1[i]? with
    | some (.lst l) => forOb p b i l 0 ρ G1
    | _ => .bad)
  | _ => .bad
/-- a tuple -/
def sForT (m : EM) (p : Pt) (b : SM) : SM := fun ρ G => (m ρ G).toS fun v G1 => match v with
  | .tup l => forIt p b l ρ G1
  | _ => .bad
def rangeL (lo : Int) (n : Nat) : List Val := (List.range n).map fun i => .int (lo + (i : Nat))
def inLine (i : Int) : Bool := decide (-(2 ^ 62) ≤ i) && decide (i < 2 ^ 62)
def rng1 (vs : List Val) : Option (List Val) := match vs with
  | [.int j] => if inLine j = true then some (rangeL 0 j.toNat) else none
  | _ => none
def rng2 (vs : List Val) : Option (List Val) := match vs with
  | [.int i, .int j] => if inLine i = true ∧ inLine j = true then some (rangeL i (j - i).toNat) else none
  | _ => none
def sForR (rng : List Val → Option (List Val)) (k : AM) (p : Pt) (b : SM) : SM := fun ρ G => (k ρ G).toS fun vs G1 => match rng vs with
  | some l => forIt p b l ρ G1
  | none => .bad
section
variable {X : Cx} {E : XK} {tg iter : Expr} {mi : EM} {p : Pt} {body : List Stmt} {b : SM} {pos : Pos}
theorem turn_w {K : PySem.W.Frag} {ι : Nat → Addr} {G : Store} {H : Hp} {ρ : Env1} {σ : L2.St} {v : Val} {x : V} {D : Ends} {k : SM} {W : Nat → L2.St → Hp → Prop} (S : Sim K ι G H) (rx : Rep K ι G.length H v x) (sl : Slots K ι G.length H ρ σ)
    (q : SPost K E ι G.length H (turn1 p b v k ρ G) D) : tG K p x σ H fun σ2 H2 => tS K E b { D with nx := tS K E k D, ct := tS K E k D, bk := D.nx } σ2 H2 := by
  unfold turn1 at q
  cases e : ptSet G p v ρ with
  | none => rw [e] at q; exact q.elim
  | some ρ1 =>
    rw [e] at q
    have q1 : SPost K E ι G.length H (match b ρ1 G with
      | .next ρ' G' => k ρ' G'
      | .cont ρ' G' => k ρ' G'
      | .brk ρ' G' => .next ρ' G'
      | r => r) D := q
    refine ⟨ι, G, v, ρ, ρ1, S, rx, sl, e, fun σ' l' _ _ => ⟨ι, G, ρ1, S, l', ?_⟩⟩
    cases e2 : b ρ1 G with
    | next ρ' G' => rw [e2] at q1; exact fun ι2 H2 σ2 x2 S2 l2 => ⟨ι2, G', ρ', S2, l2, q1.ext x2⟩
    | cont ρ' G' => rw [e2] at q1; exact fun ι2 H2 σ2 x2 S2 l2 => ⟨ι2, G', ρ', S2, l2, q1.ext x2⟩
    | brk ρ' G' => rw [e2] at q1; exact q1
    | ret v G' => rw [e2] at q1; exact q1
    | exc c G' => rw [e2] at q1; exact q1
    | bad => rw [e2] at q1; exact q1
/-- the walk over items that stand still: J yields the items of l -/
theorem for_w {K : PySem.W.Frag} {J : It} {D : Ends} {l : List Val} {ι : Nat → Addr} {G : Store} {H : Hp} {ρ : Env1} {σ : L2.St}
    (item : ∀ (j : Nat) (ι' : Nat → Addr) (n' : Nat) (H' : Hp) v, Ext K ι G.length H ι' n' H' → l[j]? = some v → J.go j H' ∧ ∀ x H2, J.yld j H' x H2 → H2 = H' ∧ Rep K ι' n' H' v x)
    (stop : ∀ (ι' : Nat → Addr) (n' : Nat) (H' : Hp), Ext K ι G.length H ι' n' H' → J.stop l.length H')
    (S : Sim K ι G H) (sl : Slots K ι G.length H ρ σ) (q : SPost K E ι G.length H (forIt p b l ρ G) D) :
    ∃ W : Nat → Nat → L2.St → Hp → Prop, (∃ m, W 0 m σ H) ∧ ∀ i m σ H, W i m σ H →
      (J.stop i H ∧ D.nx σ H) ∨ (J.go i H ∧ ∃ N : L2.St → Hp → Prop, (∀ σ' H', N σ' H' → ∃ m', m' < m ∧ W (i + 1) m' σ' H') ∧ ∀ x H', J.yld i H x H' → tG K p x σ H' fun σ2 H2 => tS K E b { D with nx := N, ct := N, bk := D.nx } σ2 H2) := by
  refine ⟨fun i m σ' H' => ∃ ι' G' ρ', Ext K ι G.length H ι' G'.length H' ∧ Sim K ι' G' H' ∧ Slots K ι' G'.length H' ρ' σ' ∧ i + m = l.length ∧ SPost K E ι' G'.length H' (forIt p b (l.drop i) ρ' G') D, ⟨l.length, ι, G, ρ, .refl, S, sl, Nat.zero_add _, q⟩, ?_⟩
  rintro i m σ' H' ⟨ι', G', ρ', x', S', sl', hm, q'⟩
  cases m with
  | zero =>
    have hi : i = l.length := by omega
    subst hi
    rw [List.drop_length] at q'
    exact .inl ⟨stop ι' G'.length H' x', q' ι' H' σ' .refl S' sl'⟩
  | succ m =>
    have hi : i < l.length := by omega
    obtain ⟨v, hv⟩ : ∃ v, l[i]? = some v := ⟨l[i], List.getElem?_eq_getElem hi⟩
    obtain ⟨go, yld⟩ := item i ι' G'.length H' v x' hv
    have ed : l.drop i = v :: l.drop (i + 1) := by
      rw [List.drop_eq_getElem_cons hi]
      rw [List.getElem?_eq_getElem hi] at hv
      rw [Option.some.inj hv]
    rw [ed] at q'
    refine .inr ⟨go, fun σ2 H2 => ∃ ι2 G2 ρ2, Ext K ι G.length H ι2 G2.length H2 ∧ Sim K ι2 G2 H2 ∧ Slots K ι2 G2.length H2 ρ2 σ2 ∧ (i + 1) + m = l.length ∧ SPost K E ι2 G2.length H2 (forIt p b (l.drop (i + 1)) ρ2 G2) D, fun σ2 H2 h => ⟨m, Nat.lt_succ_self _, h⟩, fun x H2 hy => ?_⟩
    obtain ⟨rfl, rx⟩ := yld x H2 hy
    have q2 : SPost K E ι' G'.length H2 (turn1 p b v (forIt p b (l.drop (i + 1))) ρ' G') D := q'
    unfold turn1 at q2
    cases e : ptSet G' p v ρ' with
    | none => rw [e] at q2; exact q2.elim
    | some ρ1 =>
      rw [e] at q2
      have q1 : SPost K E ι' G'.length H2 (match b ρ1 G' with
        | .next ρ' G' => forIt p b (l.drop (i + 1)) ρ' G'
        | .cont ρ' G' => forIt p b (l.drop (i + 1)) ρ' G'
        | .brk ρ' G' => .next ρ' G'
        | r => r) D := q2
      refine ⟨ι', G', v, ρ', ρ1, S', rx, sl', e, fun σ3 l3 _ _ => ⟨ι', G', ρ1, S', l3, ?_⟩⟩
      cases e2 : b ρ1 G' with
      | next ρ4 G4 => rw [e2] at q1; exact fun ι2 H2 σ2 x2 S2 l2 => ⟨ι2, G4, ρ4, x'.trans x2, S2, l2, by omega, q1.ext x2⟩
      | cont ρ4 G4 => rw [e2] at q1; exact fun ι2 H2 σ2 x2 S2 l2 => ⟨ι2, G4, ρ4, x'.trans x2, S2, l2, by omega, q1.ext x2⟩
      | brk ρ4 G4 => rw [e2] at q1; exact q1
      | ret v G4 => rw [e2] at q1; exact q1
      | exc c G4 => rw [e2] at q1; exact q1
      | bad => rw [e2] at q1; exact q1
theorem itt_w {K : PySem.W.Frag} {a : Addr} {l : List Val} {xs : List V} {ι : Nat → Addr} {n : Nat} {H : Hp} (h : SqT K H a xs) (r : Reps K ι n H l xs) :
    (∀ (j : Nat) (ι' : Nat → Addr) (n' : Nat) (H' : Hp) v, Ext K ι n H ι' n' H' → l[j]? = some v → (Itt K a).go j H' ∧ ∀ x H2, (Itt K a).yld j H' x H2 → H2 = H' ∧ Rep K ι' n' H' v x) ∧
    (∀ (ι' : Nat → Addr) (n' : Nat) (H' : Hp), Ext K ι n H ι' n' H' → (Itt K a).stop l.length H') := by
  refine ⟨fun j ι' n' H' v x hv => ?_, fun ι' n' H' x => ⟨xs, x.tup a xs h, by rw [r.length]; exact Nat.le_refl _⟩⟩
  obtain ⟨y, hy, ry⟩ := r.get hv
  refine ⟨⟨xs, y, x.tup a xs h, hy⟩, fun z H2 ⟨e, k⟩ => ⟨e, ?_⟩⟩
  have q := k xs (x.tup a xs h)
  rw [hy] at q
  rw [← Option.some.inj q]
  exact ry.ext x
theorem itf_w {K : PySem.W.Frag} {a : Addr} {l : List Val} {xs : List V} {ι : Nat → Addr} {n : Nat} {H : Hp} (h : SqF K H a xs) (r : Reps K ι n H l xs) :
    (∀ (j : Nat) (ι' : Nat → Addr) (n' : Nat) (H' : Hp) v, Ext K ι n H ι' n' H' → l[j]? = some v → (Itl K a).go j H' ∧ ∀ x H2, (Itl K a).yld j H' x H2 → H2 = H' ∧ Rep K ι' n' H' v x) ∧
    (∀ (ι' : Nat → Addr) (n' : Nat) (H' : Hp), Ext K ι n H ι' n' H' → (Itl K a).stop l.length H') := by
  refine ⟨fun j ι' n' H' v x hv => ?_, fun ι' n' H' x => ⟨xs, (x.fro a xs h).l, by rw [r.length]; exact Nat.le_refl _⟩⟩
  obtain ⟨y, hy, ry⟩ := r.get hv
  refine ⟨⟨xs, y, (x.fro a xs h).l, hy⟩, fun z H2 ⟨e, k⟩ => ⟨e, ?_⟩⟩
  have q := k xs (x.fro a xs h).l
  rw [hy] at q
  rw [← Option.some.inj q]
  exact ry.ext x
theorem itr_w {K : PySem.W.Frag} {lo : Int} {m : Nat} {ι : Nat → Addr} {n : Nat} {H : Hp} :
    (∀ (j : Nat) (ι' : Nat → Addr) (n' : Nat) (H' : Hp) v, Ext K ι n H ι' n' H' → (rangeL lo m)[j]? = some v → (Itr lo m).go j H' ∧ ∀ x H2, (Itr lo m).yld j H' x H2 → H2 = H' ∧ Rep K ι' n' H' v x) ∧
    (∀ (ι' : Nat → Addr) (n' : Nat) (H' : Hp), Ext K ι n H ι' n' H' → (Itr lo m).stop (rangeL lo m).length H') := by
  have hl : (rangeL lo m).length = m := by simp [rangeL]
  refine ⟨fun j ι' n' H' v x hv => ?_, fun ι' n' H' x => (by rw [hl]; exact Nat.le_refl m)⟩
  have hj : j < m := by rw [← hl]; exact (List.getElem?_eq_some_iff.mp hv).1
  refine ⟨hj, fun z H2 ⟨e1, e2⟩ => ⟨e1, ?_⟩⟩
  have e3 : v = .int (lo + (j : Nat)) := by
    unfold rangeL at hv
    rw [List.getElem?_map, List.getElem?_range hj] at hv
    exact (Option.some.inj hv).symm
  rw [e3, e2]
  exact rfl
theorem rs_forT (hp : PassesOwn (model X.prog X.w) X.A X.env X.xe) (hc : X.calm = true) (hi : RE X E iter mi) (hg : RG X tg p) (hb : RSs X E body b) (hs : ∀ x, foldedSetIterable iter X.env x = pure x := by intro _; rfl) :
    RS X E (.For tg iter body [] pos) (sForT mi p b) := by
  refine ps_weak (ps_for hp hc (pi_tup hi) hg hb hs) fun D σ H ⟨ι, G, ρ, S, sl, q⟩ => run1 S sl (q.ofRes.mono fun ι1 G1 H1 v x1 S1 q1 x rx => ?_)
  cases v with
  | tup l =>
    obtain ⟨a, xs, ex, h1, h2⟩ := rx
    exact ⟨a, ex, ⟨xs, h1⟩, for_w (itt_w h1 h2).1 (itt_w h1 h2).2 S1 (sl.ext x1) q1⟩
  | _ => exact q1.elim
/-- the walk over a list of the store -/
theorem forOb_w {K : PySem.W.Frag} {D : Ends} {l : List Val} {i : Nat} {ι : Nat → Addr} {G : Store} {H : Hp} {ρ : Env1} {σ : L2.St} (hi : i < G.length) (S : Sim K ι G H) (sl : Slots K ι G.length H ρ σ) (q : SPost K E ι G.length H (forOb p b i l 0 ρ G) D) :
    ∃ W : Nat → Nat → L2.St → Hp → Prop, (∃ m, W 0 m σ H) ∧ ∀ j m σ H, W j m σ H →
      ((Itl K (ι i)).stop j H ∧ D.nx σ H) ∨ ((Itl K (ι i)).go j H ∧ ∃ N : L2.St → Hp → Prop, (∀ σ' H', N σ' H' → ∃ m', m' < m ∧ W (j + 1) m' σ' H') ∧ ∀ x H', (Itl K (ι i)).yld j H x H' → tG K p x σ H' fun σ2 H2 => tS K E b { D with nx := N, ct := N, bk := D.nx } σ2 H2) := by
  refine ⟨fun j m σ' H' => ∃ ι' G' ρ' r, Ext K ι G.length H ι' G'.length H' ∧ Sim K ι' G' H' ∧ Slots K ι' G'.length H' ρ' σ' ∧ r.length = m ∧ SPost K E ι' G'.length H' (forOb p b i r j ρ' G') D, ⟨l.length, ι, G, ρ, l, .refl, S, sl, rfl, q⟩, ?_⟩
  rintro j m σ' H' ⟨ι', G', ρ', r, x', S', sl', hm, q'⟩
  have ea : ι' i = ι i := x'.same i hi
  cases r with
  | nil =>
    have q2 : SPost K E ι' G'.length H' (match G'[i]? with | some (.lst l) => (if l.length ≤ j then .next ρ' G' else .bad) | _ => .bad) D := q'
    cases e : G'[i]? with
    | none => rw [e] at q2; exact q2.elim
    | some o =>
      rw [e] at q2
      cases o with
      | lst l' =>
        have q3 : SPost K E ι' G'.length H' (if l'.length ≤ j then .next ρ' G' else .bad) D := q2
        by_cases hl : l'.length ≤ j
        · rw [if_pos hl] at q3
          obtain ⟨xs, h1, h2⟩ := S'.lst e
          rw [ea] at h1
          exact .inl ⟨⟨xs, .of h1, by rw [h2.length]; exact hl⟩, q3 ι' H' σ' .refl S' sl'⟩
        · rw [if_neg hl] at q3
          exact q3.elim
      | _ => exact q2.elim
  | cons w r =>
    have q2 : SPost K E ι' G'.length H' (match G'[i]? with | some (.lst l) => (match l[j]? with | some v => turn1 p b v (forOb p b i r (j + 1)) ρ' G' | none => .bad) | _ => .bad) D := q'
    cases e : G'[i]? with
    | none => rw [e] at q2; exact q2.elim
    | some o =>
      rw [e] at q2
      cases o with
      | lst l' =>
        have q3 : SPost K E ι' G'.length H' (match l'[j]? with | some v => turn1 p b v (forOb p b i r (j + 1)) ρ' G' | none => .bad) D := q2
        cases e2 : l'[j]? with
        | none => rw [e2] at q3; exact q3.elim
        | some v =>
          rw [e2] at q3
          obtain ⟨xs, h1, h2⟩ := S'.lst e
          rw [ea] at h1
          obtain ⟨y, hy, ry⟩ := h2.get e2
          have hm' : r.length < m := by rw [← hm]; exact Nat.lt_succ_self _
          refine .inr ⟨⟨xs, y, .of h1, hy⟩, fun σ2 H2 => ∃ ι2 G2 ρ2, Ext K ι G.length H ι2 G2.length H2 ∧ Sim K ι2 G2 H2 ∧ Slots K ι2 G2.length H2 ρ2 σ2 ∧ SPost K E ι2 G2.length H2 (forOb p b i r (j + 1) ρ2 G2) D, fun σ2 H2 ⟨ι2, G2, ρ2, a1, a2, a3, a4⟩ => ⟨r.length, hm', ι2, G2, ρ2, r, a1, a2, a3, rfl, a4⟩, fun x H2 ⟨eh, ky⟩ => ?_⟩
          subst eh
          have ex := ky xs (.of h1)
          rw [hy] at ex
          cases ex
          have q4 : SPost K E ι' G'.length H2 (turn1 p b v (forOb p b i r (j + 1)) ρ' G') D := q3
          unfold turn1 at q4
          cases e4 : ptSet G' p v ρ' with
          | none => rw [e4] at q4; exact q4.elim
          | some ρ1 =>
            rw [e4] at q4
            have q1 : SPost K E ι' G'.length H2 (match b ρ1 G' with
              | .next ρ' G' => forOb p b i r (j + 1) ρ' G'
              | .cont ρ' G' => forOb p b i r (j + 1) ρ' G'
              | .brk ρ' G' => .next ρ' G'
              | r => r) D := q4
            refine ⟨ι', G', v, ρ', ρ1, S', ry, sl', e4, fun σ3 l3 _ _ => ⟨ι', G', ρ1, S', l3, ?_⟩⟩
            cases e5 : b ρ1 G' with
            | next ρ4 G4 => rw [e5] at q1; exact fun ι2 H2 σ2 x2 S2 l2 => ⟨ι2, G4, ρ4, x'.trans x2, S2, l2, q1.ext x2⟩
            | cont ρ4 G4 => rw [e5] at q1; exact fun ι2 H2 σ2 x2 S2 l2 => ⟨ι2, G4, ρ4, x'.trans x2, S2, l2, q1.ext x2⟩
            | brk ρ4 G4 => rw [e5] at q1; exact q1
            | ret v G4 => rw [e5] at q1; exact q1
            | exc c G4 => rw [e5] at q1; exact q1
            | bad => rw [e5] at q1; exact q1
      | _ => exact q2.elim
theorem rs_forL (hp : PassesOwn (model X.prog X.w) X.A X.env X.xe) (hc : X.calm = true) (hi : RE X E iter mi) (hg : RG X tg p) (hb : RSs X E body b) (hs : ∀ x, foldedSetIterable iter X.env x = pure x := by intro _; rfl) :
    RS X E (.For tg iter body [] pos) (sForL mi p b) := by
  refine ps_weak (ps_for hp hc (pi_list hi) hg hb hs) fun D σ H ⟨ι, G, ρ, S, sl, q⟩ => run1 S sl (q.ofRes.mono fun ι1 G1 H1 v x1 S1 q1 x rx => ?_)
  cases v with
  | fro l =>
    obtain ⟨a, xs, ex, h1, h2⟩ := rx
    exact ⟨a, ex, ⟨xs, h1.l⟩, for_w (itf_w h1 h2).1 (itf_w h1 h2).2 S1 (sl.ext x1) q1⟩
  | obj i =>
    cases e : G1[i]? with
    | none => simp only [e] at q1; exact q1.elim
    | some o =>
      simp only [e] at q1
      cases o with
      | lst l =>
        obtain ⟨xs, h1, h2⟩ := S1.lst e
        exact ⟨ι1 i, rx.2, ⟨xs, .of h1⟩, forOb_w rx.1 S1 (sl.ext x1) q1⟩
      | _ => exact q1.elim
  | _ => exact q1.elim
theorem rng1_inv {K : PySem.W.Frag} {ι : Nat → Addr} {n : Nat} {H : Hp} {vs l : List Val} {xs : List V} (r : Reps K ι n H vs xs) (h : rng1 vs = some l) :
    ∃ j : Int, xs = [.int j] ∧ -(2 ^ 62) ≤ j ∧ j < 2 ^ 62 ∧ l = rangeL 0 j.toNat := by
  unfold rng1 at h
  cases vs with
  | nil => cases h
  | cons v vs =>
    cases vs with
    | nil =>
      cases v with
      | int j =>
        have h1 : (if inLine j = true then some (rangeL 0 j.toNat) else none) = some l := h
        by_cases c : inLine j = true
        · rw [if_pos c] at h1
          obtain ⟨c1, c2⟩ := Bool.and_eq_true_iff.mp c
          obtain ⟨x, rfl, rx⟩ := reps1 r
          exact ⟨j, by rw [show x = V.int j from rx], of_decide_eq_true c1, of_decide_eq_true c2, (Option.some.inj h1).symm⟩
        · rw [if_neg c] at h1
          cases h1
      | _ => cases h
    | cons w vs => cases v <;> cases h
theorem rng2_inv {K : PySem.W.Frag} {ι : Nat → Addr} {n : Nat} {H : Hp} {vs l : List Val} {xs : List V} (r : Reps K ι n H vs xs) (h : rng2 vs = some l) :
    ∃ i j : Int, xs = [.int i, .int j] ∧ (-(2 ^ 62) ≤ i ∧ i < 2 ^ 62 ∧ -(2 ^ 62) ≤ j ∧ j < 2 ^ 62) ∧ l = rangeL i (j - i).toNat := by
  unfold rng2 at h
  cases vs with
  | nil => cases h
  | cons v vs =>
    cases vs with
    | nil => cases v <;> cases h
    | cons w vs =>
      cases vs with
      | cons _ _ => cases v <;> (try cases h) <;> (cases w <;> cases h)
      | nil =>
        cases v with
        | int i =>
          cases w with
          | int j =>
            have h1 : (if inLine i = true ∧ inLine j = true then some (rangeL i (j - i).toNat) else none) = some l := h
            by_cases c : inLine i = true ∧ inLine j = true
            · rw [if_pos c] at h1
              obtain ⟨c1, c2⟩ := Bool.and_eq_true_iff.mp c.1
              obtain ⟨c3, c4⟩ := Bool.and_eq_true_iff.mp c.2
              obtain ⟨x, y, rfl, rx, ry⟩ := reps2 r
              exact ⟨i, j, by rw [show x = V.int i from rx, show y = V.int j from ry], ⟨of_decide_eq_true c1, of_decide_eq_true c2, of_decide_eq_true c3, of_decide_eq_true c4⟩, (Option.some.inj h1).symm⟩
            · rw [if_neg c] at h1
              cases h1
          | _ => cases h
        | _ => cases h
theorem rs_forR1 {a : Expr} {ma : AM} {pr pos' : Pos} (hp : PassesOwn (model X.prog X.w) X.A X.env X.xe) (hc : X.calm = true) (hgl : Gl X "range") (hm : X.mg "range" = none) (ha : RA X E [a] ma) (hg : RG X tg p) (hb : RSs X E body b)
    (hs1 : starEach [a] X.env = [(false, eval a X.env)] := by rfl) (hs : ∀ x, foldedSetIterable (.Call (.Name "range" pr) [a] [] pos') X.env x = pure x := by intro _; rfl) :
    RS X E (.For tg (.Call (.Name "range" pr) [a] [] pos') body [] pos) (sForR rng1 ma p b) := by
  refine ps_weak (ps_for hp hc (pi_range1 hgl hm ha hs1) hg hb hs) fun D σ H ⟨ι, G, ρ, S, sl, q⟩ => ⟨ι, G, ρ, S, sl, q.ofRes.mono fun ι1 G1 H1 vs x1 S1 q1 xs rxs => ?_⟩
  cases e : rng1 vs with
  | none => rw [e] at q1; exact q1.elim
  | some l =>
    rw [e] at q1
    obtain ⟨j, e1, h1, h2, rfl⟩ := rng1_inv rxs e
    exact ⟨j, e1, h1, h2, for_w itr_w.1 itr_w.2 S1 (sl.ext x1) q1⟩
theorem rs_forR2 {a c : Expr} {ma : AM} {pr pos' : Pos} (hp : PassesOwn (model X.prog X.w) X.A X.env X.xe) (hc : X.calm = true) (hgl : Gl X "range") (hm : X.mg "range" = none) (ha : RA X E [a, c] ma) (hg : RG X tg p) (hb : RSs X E body b)
    (hs1 : starEach [a, c] X.env = [(false, eval a X.env), (false, eval c X.env)] := by rfl) (hs2 : starEach [c] X.env = [(false, eval c X.env)] := by rfl) (hs : ∀ x, foldedSetIterable (.Call (.Name "range" pr) [a, c] [] pos') X.env x = pure x := by intro _; rfl) :
    RS X E (.For tg (.Call (.Name "range" pr) [a, c] [] pos') body [] pos) (sForR rng2 ma p b) := by
  refine ps_weak (ps_for hp hc (pi_range2 hgl hm ha hs1 hs2) hg hb hs) fun D σ H ⟨ι, G, ρ, S, sl, q⟩ => ⟨ι, G, ρ, S, sl, q.ofRes.mono fun ι1 G1 H1 vs x1 S1 q1 xs rxs => ?_⟩
  cases e : rng2 vs with
  | none => rw [e] at q1; exact q1.elim
  | some l =>
    rw [e] at q1
    obtain ⟨i, j, e1, h1, rfl⟩ := rng2_inv rxs e
    exact ⟨i, j, e1, h1, for_w itr_w.1 itr_w.2 S1 (sl.ext x1) q1⟩
end
end R1

/-! R1f: comprehensions; walks over dicts. -/
namespace R1
open PySem PySem.Spec PyProof.Rows L2

theorem run2 {K : PySem.W.Frag} {E : XK} {ma : EM} {σ : L2.St} {H : Hp} {ι : Nat → Addr} {G : Store} {ρ : Env1} {R : V → Hp → Prop} (S : Sim K ι G H) (sl : Slots K ι G.length H ρ σ)
    (h : Post K E ι G.length H (ma ρ G) fun ι' G' H' v => ∀ x, Rep K ι' G'.length H' v x → R x H') : tE K E ma σ H R := ⟨ι, G, ρ, S, sl, h⟩
def wipe1 (ρ : Env1) : List Nat → Env1
  | [] => ρ
  | v :: vs => (wipe1 ρ vs).set v none
def tTrue : TM := fun _ G => .ok true G
/-- one item more in the list D -/
def push1 (D : Nat) (v : Val) (G : Store) : Option Store := match G[D]? with
  | some (.lst acc) => if acc.length < sizeLine then some (G.set D (.lst (acc ++ [v]))) else none
  | _ => none
/-- one turn of a comprehension; go on with k -/
def lcTurn (p : Pt) (tt : TM) (te : EM) (ρw : Env1) (D : Nat) (v : Val) (k : Store → Res Unit) (G : Store) : Res Unit := match ptSet G p v ρw with
  | none => .bad
  | some ρ2 => (tt ρ2 G).bind fun b G1 => if b = true then (te ρ2 G1).bind fun w G2 => (match push1 D w G2 with
      | some G3 => k G3
      | none => .bad) else k G1
def lcIt (p : Pt) (tt : TM) (te : EM) (ρw : Env1) (D : Nat) : List Val → Store → Res Unit
  | [], G => .ok () G
  | v :: r, G => lcTurn p tt te ρw D v (lcIt p tt te ρw D r) G
def lcOb (p : Pt) (tt : TM) (te : EM) (ρw : Env1) (D : Nat) (i : Nat) : List Val → Nat → Store → Res Unit
  | [], k, G => (match G[i]? with
    | some (.lst l) => if l.length ≤ k then .ok () G else .bad
    | _ => .bad)
  | _ :: r, k, G => (match G[i]? with
    | some (.lst l) => (match l[k]? with
      | some v => lcTurn p tt te ρw D v (lcOb p tt te ρw D i r (k + 1)) G
      | none => .bad)
    | _ => .bad)
/-- [te for p in m if tt]: m a list -/
def eLcL (m : EM) (p : Pt) (tt : TM) (te : EM) (own : List Nat) : EM := fun ρ G => (m ρ G).bind fun v G1 => match v with
  | .fro l => (lcIt p tt te (wipe1 ρ own) G1.length l (G1 ++ [.lst []])).bind fun _ G3 => .ok (.obj G1.length) G3
  | .obj i => (match G1[i]? with
    | some (.lst l) => (lcOb p tt te (wipe1 ρ own) G1.length i l 0 (G1 ++ [.lst []])).bind fun _ G3 => .ok (.obj G1.length) G3
    | _ => .bad)
  | _ => .bad
def eLcT (m : EM) (p : Pt) (tt : TM) (te : EM) (own : List Nat) : EM := fun ρ G => (m ρ G).bind fun v G1 => match v with
  | .tup l => (lcIt p tt te (wipe1 ρ own) G1.length l (G1 ++ [.lst []])).bind fun _ G3 => .ok (.obj G1.length) G3
  | _ => .bad
def eLcR (rng : List Val → Option (List Val)) (m : AM) (p : Pt) (tt : TM) (te : EM) (own : List Nat) : EM := fun ρ G => (m ρ G).bind fun vs G1 => match rng vs with
  | some l => (lcIt p tt te (wipe1 ρ own) G1.length l (G1 ++ [.lst []])).bind fun _ G3 => .ok (.obj G1.length) G3
  | none => .bad
theorem wipe_get {σ : L2.St} : ∀ {vs : List Nat} {j : Nat}, (wipe σ vs)[j]? = if j ∈ vs then (σ[j]?).map (fun _ => none) else σ[j]?
  | [], j => by simp [wipe]
  | v :: vs, j => by
    unfold wipe
    rw [List.getElem?_set]
    by_cases h : v = j
    · subst h
      rw [if_pos rfl, if_pos (List.mem_cons_self ..), wipe_length]
      by_cases hl : v < σ.length
      · rw [if_pos hl, List.getElem?_eq_getElem hl]
        rfl
      · rw [if_neg hl, List.getElem?_eq_none (Nat.le_of_not_lt hl)]
        rfl
    · rw [if_neg h, wipe_get]
      by_cases hm : j ∈ vs
      · rw [if_pos hm, if_pos (List.mem_cons_of_mem _ hm)]
      · rw [if_neg hm, if_neg fun q => (List.mem_cons.mp q).elim (fun e => h e.symm) hm]
theorem wipe_same {σ σ2 : L2.St} {vs l : List Nat} (hl : ∀ i ∈ l, i ∈ vs) (hn : σ2.length = (wipe σ vs).length) (h : ∀ j, j ∉ l → σ2[j]? = (wipe σ vs)[j]?) : wipe σ2 vs = wipe σ vs := by
  refine List.ext_getElem? fun j => ?_
  rw [wipe_get]
  rw [wipe_length] at hn
  by_cases hm : j ∈ vs
  · rw [if_pos hm, wipe_get, if_pos hm]
    by_cases hj : j < σ.length
    · rw [List.getElem?_eq_getElem hj, List.getElem?_eq_getElem (by omega)]
      rfl
    · rw [List.getElem?_eq_none (by omega), List.getElem?_eq_none (by omega)]
  · rw [if_neg hm]
    exact h j fun q => hm (hl j q)
section
variable {K : PySem.W.Frag} {ι : Nat → Addr} {n : Nat} {H : Hp}
theorem Slots.wipe {ρ : Env1} {σ : L2.St} (h : Slots K ι n H ρ σ) : ∀ vs : List Nat, Slots K ι n H (wipe1 ρ vs) (L2.wipe σ vs)
  | [] => h
  | v :: vs => (Slots.wipe h vs).drop v none
end
section
variable {K : PySem.W.Frag} {E : XK} {p : Pt} {tt : TM} {te : EM} {own : List Nat}
/-- what a turn asks -/
theorem lc_turn {ι : Nat → Addr} {G : Store} {H : Hp} {ρ : Env1} {σ : L2.St} {v : Val} {x : V} {D : Nat} {k : Store → Res Unit} {R : (Nat → Addr) → Store → Hp → Unit → Prop} (hD : D < G.length) (ho : ∀ i ∈ p.slots, i ∈ own) (S : Sim K ι G H) (rx : Rep K ι G.length H v x) (sl : Slots K ι G.length H (wipe1 ρ own) (L2.wipe σ own))
    (q : Post K E ι G.length H (lcTurn p tt te (wipe1 ρ own) D v k G) R) {N : Hp → Prop} (hN : ∀ ι' G' H', Ext K ι G.length H ι' G'.length H' → Sim K ι' G' H' → Post K E ι' G'.length H' (k G') R → N H') :
    tG K p x (L2.wipe σ own) H fun σ2 H2 => L2.wipe σ2 own = L2.wipe σ own ∧ tT K E tt σ2 H2 fun b H3 => if b = true then tE K E te σ2 H3 fun y H4 => ∃ acc, H4 (ι D) = some (.lst acc) ∧ acc.length < sizeLine ∧ N (L2.upd H4 (ι D) (.lst (acc ++ [y]))) else N H3 := by
  unfold lcTurn at q
  cases e : ptSet G p v (wipe1 ρ own) with
  | none => rw [e] at q; exact q.elim
  | some ρ2 =>
    rw [e] at q
    refine ⟨ι, G, v, wipe1 ρ own, ρ2, S, rx, sl, e, fun σ' l' hl hj => ⟨wipe_same ho hl hj, ι, G, ρ2, S, l', (Post.bind q).mono fun ι1 G1 H1 b x1 S1 q1 => ?_⟩⟩
    cases b with
    | false => exact hN ι1 G1 H1 x1 S1 q1
    | true =>
      refine run2 S1 (l'.ext x1) ((Post.bind q1).mono fun ι2 G2 H2 w x2 S2 q2 y ry => ?_)
      have eD : ι2 D = ι D := (x2.same D (Nat.lt_of_lt_of_le hD x1.le)).trans (x1.same D hD)
      have q3 : Post K E ι2 G2.length H2 (match push1 D w G2 with | some G3 => k G3 | none => .bad) R := q2
      cases e3 : push1 D w G2 with
      | none => rw [e3] at q3; exact q3.elim
      | some G3 =>
        rw [e3] at q3
        unfold push1 at e3
        cases e4 : G2[D]? with
        | none => rw [e4] at e3; cases e3
        | some o =>
          rw [e4] at e3
          cases o with
          | lst acc =>
            have e5 : (if acc.length < sizeLine then some (G2.set D (.lst (acc ++ [w]))) else none) = some G3 := e3
            by_cases hl : acc.length < sizeLine
            · rw [if_pos hl] at e5
              cases e5
              obtain ⟨xs, h1, h2⟩ := S2.lst e4
              have h2' := h2.length
              obtain ⟨s1, s2⟩ := S2.set (u := .lst (xs ++ [y])) (o := .lst (acc ++ [w])) e4 rfl ⟨xs ++ [y], upd_same, (h2.append (Reps.one ry)).ext (Ext.updE (.some h1 trivial))⟩
              rw [eD] at h1 s1 s2
              exact ⟨xs, h1, by rw [h2']; exact hl, hN ι2 _ _ ((x1.trans x2).trans s2) s1 (q3.ext s2)⟩
            · rw [if_neg hl] at e5
              cases e5
          | _ => cases e3
/-- the new list -/
theorem lc_new {ι : Nat → Addr} {G : Store} {H : Hp} {D : Addr} (S : Sim K ι G H) (hD : H D = none) : Sim K (into ι G.length D) (G ++ [.lst []]) (L2.upd H D (.lst [])) ∧ Ext K ι G.length H (into ι G.length D) (G ++ [Ob.lst []]).length (L2.upd H D (.lst [])) := by
  refine ⟨S.push hD ⟨[], upd_same, rfl⟩, ?_⟩
  rw [List.length_append, List.length_singleton]
  exact Ext.push hD
theorem lc_w {J : It} {l : List Val} {ι : Nat → Addr} {G : Store} {H : Hp} {ρ : Env1} {σ : L2.St} {Q : VK} (ho : ∀ i ∈ p.slots, i ∈ own)
    (item : ∀ (j : Nat) (ι' : Nat → Addr) (n' : Nat) (H' : Hp) v, Ext K ι G.length H ι' n' H' → l[j]? = some v → J.go j H' ∧ ∀ x H2, J.yld j H' x H2 → H2 = H' ∧ Rep K ι' n' H' v x)
    (stop : ∀ (ι' : Nat → Addr) (n' : Nat) (H' : Hp), Ext K ι G.length H ι' n' H' → J.stop l.length H')
    (S : Sim K ι G H) (sl : Slots K ι G.length H ρ σ) (q : Post K E ι G.length H ((lcIt p tt te (wipe1 ρ own) G.length l (G ++ [.lst []])).bind fun _ G3 => .ok (.obj G.length) G3) fun ι' G' H' v => ∀ x, Rep K ι' G'.length H' v x → Q x H') :
    ∀ D, H D = none → ∃ W : Nat → Nat → Hp → Prop, (∃ m, W 0 m (L2.upd H D (.lst []))) ∧ ∀ i m H, W i m H →
      (J.stop i H ∧ Q (.ref D) H) ∨ (J.go i H ∧ ∃ Nx : Hp → Prop, (∀ H', Nx H' → ∃ m', m' < m ∧ W (i + 1) m' H') ∧ ∀ x H', J.yld i H x H' → tG K p x (L2.wipe σ own) H' fun σ2 H2 => L2.wipe σ2 own = L2.wipe σ own ∧ tT K E tt σ2 H2 fun b H3 =>
        if b = true then tE K E te σ2 H3 fun y H4 => ∃ acc, H4 D = some (.lst acc) ∧ acc.length < sizeLine ∧ Nx (L2.upd H4 D (.lst (acc ++ [y]))) else Nx H3) := fun D hD => by
  obtain ⟨S2, x2⟩ := lc_new S hD
  have hl2 : (G ++ [Ob.lst []]).length = G.length + 1 := by rw [List.length_append, List.length_singleton]
  have q0 := Post.bind (q.ext x2)
  refine ⟨fun i m H' => ∃ ι' G', Ext K (into ι G.length D) (G ++ [Ob.lst []]).length (L2.upd H D (.lst [])) ι' G'.length H' ∧ Sim K ι' G' H' ∧ i + m = l.length ∧
    Post K E ι' G'.length H' (lcIt p tt te (wipe1 ρ own) G.length (l.drop i) G') (fun ι' G' H' _ => Post K E ι' G'.length H' (Res.ok (Val.obj G.length) G') fun ι' G' H' v => ∀ x, Rep K ι' G'.length H' v x → Q x H'), ⟨l.length, _, _, .refl, S2, Nat.zero_add _, q0⟩, ?_⟩
  rintro i m H' ⟨ι', G', x', S', hm, q'⟩
  have eD : ι' G.length = D := by rw [x'.same G.length (by rw [hl2]; exact Nat.lt_succ_self _), into_eq]
  have hDl : G.length < G'.length := Nat.lt_of_lt_of_le (by rw [hl2]; exact Nat.lt_succ_self _) x'.le
  cases m with
  | zero =>
    have hi : i = l.length := by omega
    subst hi
    rw [List.drop_length] at q'
    exact .inl ⟨stop ι' G'.length H' (x2.trans x'), (q'.here S').here S' (.ref D) ⟨hDl, by rw [eD]⟩⟩
  | succ m =>
    have hi : i < l.length := by omega
    obtain ⟨v, hv⟩ : ∃ v, l[i]? = some v := ⟨l[i], List.getElem?_eq_getElem hi⟩
    obtain ⟨go, yld⟩ := item i ι' G'.length H' v (x2.trans x') hv
    have ed : l.drop i = v :: l.drop (i + 1) := by
      rw [List.drop_eq_getElem_cons hi]
      rw [List.getElem?_eq_getElem hi] at hv
      rw [Option.some.inj hv]
    rw [ed] at q'
    refine .inr ⟨go, fun H2 => ∃ ι2 G2, Ext K (into ι G.length D) (G ++ [Ob.lst []]).length (L2.upd H D (.lst [])) ι2 G2.length H2 ∧ Sim K ι2 G2 H2 ∧ (i + 1) + m = l.length ∧
      Post K E ι2 G2.length H2 (lcIt p tt te (wipe1 ρ own) G.length (l.drop (i + 1)) G2) (fun ι' G' H' _ => Post K E ι' G'.length H' (Res.ok (Val.obj G.length) G') fun ι' G' H' v => ∀ x, Rep K ι' G'.length H' v x → Q x H'), fun H2 h => ⟨m, Nat.lt_succ_self _, h⟩, fun x H2 hy => ?_⟩
    obtain ⟨rfl, rx⟩ := yld x H2 hy
    have t := lc_turn (tt := tt) (te := te) (k := lcIt p tt te (wipe1 ρ own) G.length (l.drop (i + 1))) (σ := σ) hDl ho S' rx ((sl.wipe own).ext (x2.trans x')) q'
      (N := fun H2 => ∃ ι2 G2, Ext K (into ι G.length D) (G ++ [Ob.lst []]).length (L2.upd H D (.lst [])) ι2 G2.length H2 ∧ Sim K ι2 G2 H2 ∧ (i + 1) + m = l.length ∧
        Post K E ι2 G2.length H2 (lcIt p tt te (wipe1 ρ own) G.length (l.drop (i + 1)) G2) (fun ι' G' H' _ => Post K E ι' G'.length H' (Res.ok (Val.obj G.length) G') fun ι' G' H' v => ∀ x, Rep K ι' G'.length H' v x → Q x H'))
      (fun ι2 G2 H2 x2 S2 q2 => ⟨ι2, G2, x'.trans x2, S2, by omega, q2⟩)
    rw [eD] at t
    exact t
theorem lcOb_w {l : List Val} {i : Nat} {ι : Nat → Addr} {G : Store} {H : Hp} {ρ : Env1} {σ : L2.St} {Q : VK} (ho : ∀ i ∈ p.slots, i ∈ own) (hi : i < G.length)
    (S : Sim K ι G H) (sl : Slots K ι G.length H ρ σ) (q : Post K E ι G.length H ((lcOb p tt te (wipe1 ρ own) G.length i l 0 (G ++ [.lst []])).bind fun _ G3 => .ok (.obj G.length) G3) fun ι' G' H' v => ∀ x, Rep K ι' G'.length H' v x → Q x H') :
    ∀ D, H D = none → ∃ W : Nat → Nat → Hp → Prop, (∃ m, W 0 m (L2.upd H D (.lst []))) ∧ ∀ j m H, W j m H →
      ((Itl K (ι i)).stop j H ∧ Q (.ref D) H) ∨ ((Itl K (ι i)).go j H ∧ ∃ Nx : Hp → Prop, (∀ H', Nx H' → ∃ m', m' < m ∧ W (j + 1) m' H') ∧ ∀ x H', (Itl K (ι i)).yld j H x H' → tG K p x (L2.wipe σ own) H' fun σ2 H2 => L2.wipe σ2 own = L2.wipe σ own ∧ tT K E tt σ2 H2 fun b H3 =>
        if b = true then tE K E te σ2 H3 fun y H4 => ∃ acc, H4 D = some (.lst acc) ∧ acc.length < sizeLine ∧ Nx (L2.upd H4 D (.lst (acc ++ [y]))) else Nx H3) := fun D hD => by
  obtain ⟨S2, x2⟩ := lc_new S hD
  have hl2 : (G ++ [Ob.lst []]).length = G.length + 1 := by rw [List.length_append, List.length_singleton]
  have q0 := Post.bind (q.ext x2)
  refine ⟨fun j m H' => ∃ ι' G' r, Ext K (into ι G.length D) (G ++ [Ob.lst []]).length (L2.upd H D (.lst [])) ι' G'.length H' ∧ Sim K ι' G' H' ∧ r.length = m ∧
    Post K E ι' G'.length H' (lcOb p tt te (wipe1 ρ own) G.length i r j G') (fun ι' G' H' _ => Post K E ι' G'.length H' (Res.ok (Val.obj G.length) G') fun ι' G' H' v => ∀ x, Rep K ι' G'.length H' v x → Q x H'), ⟨l.length, _, _, l, .refl, S2, rfl, q0⟩, ?_⟩
  rintro j m H' ⟨ι', G', r, x', S', hm, q'⟩
  have eD : ι' G.length = D := by rw [x'.same G.length (by rw [hl2]; exact Nat.lt_succ_self _), into_eq]
  have hDl : G.length < G'.length := Nat.lt_of_lt_of_le (by rw [hl2]; exact Nat.lt_succ_self _) x'.le
  have ea : ι' i = ι i := (x2.trans x').same i hi
  cases r with
  | nil =>
    unfold lcOb at q'
    cases e : G'[i]? with
    | none => rw [e] at q'; exact q'.elim
    | some o =>
      rw [e] at q'
      cases o with
      | lst l' =>
        dsimp only at q'
        by_cases hl : l'.length ≤ j
        · rw [if_pos hl] at q'
          obtain ⟨xs, h1, h2⟩ := S'.lst e
          rw [ea] at h1
          exact .inl ⟨⟨xs, .of h1, by rw [h2.length]; exact hl⟩, (q'.here S').here S' (.ref D) ⟨hDl, by rw [eD]⟩⟩
        · rw [if_neg hl] at q'
          exact q'.elim
      | _ => exact q'.elim
  | cons w r =>
    unfold lcOb at q'
    cases e : G'[i]? with
    | none => rw [e] at q'; exact q'.elim
    | some o =>
      rw [e] at q'
      cases o with
      | lst l' =>
        dsimp only at q'
        cases e2 : l'[j]? with
        | none => rw [e2] at q'; exact q'.elim
        | some v =>
          rw [e2] at q'
          obtain ⟨xs, h1, h2⟩ := S'.lst e
          rw [ea] at h1
          obtain ⟨y, hy, ry⟩ := h2.get e2
          have hm' : r.length < m := by rw [← hm]; exact Nat.lt_succ_self _
          refine .inr ⟨⟨xs, y, .of h1, hy⟩, fun H2 => ∃ ι2 G2, Ext K (into ι G.length D) (G ++ [Ob.lst []]).length (L2.upd H D (.lst [])) ι2 G2.length H2 ∧ Sim K ι2 G2 H2 ∧
            Post K E ι2 G2.length H2 (lcOb p tt te (wipe1 ρ own) G.length i r (j + 1) G2) (fun ι' G' H' _ => Post K E ι' G'.length H' (Res.ok (Val.obj G.length) G') fun ι' G' H' v => ∀ x, Rep K ι' G'.length H' v x → Q x H'), fun H2 ⟨ι2, G2, a1, a2, a3⟩ => ⟨r.length, hm', ι2, G2, r, a1, a2, rfl, a3⟩, fun x H2 ⟨eh, ky⟩ => ?_⟩
          subst eh
          have ex := ky xs (.of h1)
          rw [hy] at ex
          cases ex
          have t := lc_turn (tt := tt) (te := te) (k := lcOb p tt te (wipe1 ρ own) G.length i r (j + 1)) (σ := σ) hDl ho S' ry ((sl.wipe own).ext (x2.trans x')) q'
            (N := fun H2 => ∃ ι2 G2, Ext K (into ι G.length D) (G ++ [Ob.lst []]).length (L2.upd H D (.lst [])) ι2 G2.length H2 ∧ Sim K ι2 G2 H2 ∧
              Post K E ι2 G2.length H2 (lcOb p tt te (wipe1 ρ own) G.length i r (j + 1) G2) (fun ι' G' H' _ => Post K E ι' G'.length H' (Res.ok (Val.obj G.length) G') fun ι' G' H' v => ∀ x, Rep K ι' G'.length H' v x → Q x H'))
            (fun ι2 G2 H2 x2 S2 q2 => ⟨ι2, G2, x'.trans x2, S2, q2⟩)
          rw [eD] at t
          exact t
      | _ => exact q'.elim
end
section
variable {X : Cx} {E : XK} {tg iter elt : Expr} {ifs : List Expr} {scope : Scope} {own : List (Str × Nat)} {mi te : EM} {tt : TM} {p : Pt} {pos : Pos}
theorem rts_nil {Y : Cx} : PTs Y [] (tT Y.K E tTrue) := ⟨fun pins s σ H Q I ⟨ι, G, ρ, S, sl, p⟩ => pts_nil.run pins s σ H Q I (p.here S)⟩
theorem rts_one {Y : Cx} {c : Expr} (h : RT Y E c tt) : PTs Y [c] (tT Y.K E tt) := pts_one h
abbrev Blk (X : Cx) (scope : Scope) (s : Shared) (H : Hp) (C : Addr) (cl : List (Str × Addr)) (fp : List Addr) : Cx := X.blk s H scope (compEnvC scope cl C X.env) fp
theorem re_lcL (hc : X.calm = true) (hN : X.N.Nodup) (hi : RE X E iter mi) (ok : BlkOk X.N X.env.scope scope own) (ho : ∀ i ∈ p.slots, i ∈ own.map (·.2))
    (hg : ∀ s H C cl fp, RG (Blk X scope s H C cl fp) tg p) (ht : ∀ s H C cl fp, PTs (Blk X scope s H C cl fp) ifs (tT X.K E tt)) (he : ∀ s H C cl fp, RE (Blk X scope s H C cl fp) E elt te)
    (hs : ∀ x, foldedSetIterable iter X.env x = pure x := by intro _; rfl) : RE X E (.ListComp elt [⟨tg, iter, ifs, 0⟩] scope pos) (eLcL mi p tt te (own.map (·.2))) := by
  refine pe_weak (pe_lc (g := tG X.K p) (tt := tT X.K E tt) (te := tE X.K E te) hc hN (pi_list hi) ok hg ht he hs) fun σ H Q ⟨ι, G, ρ, S, sl, q⟩ => run1 S sl ((Post.bind q).mono fun ι1 G1 H1 v x1 S1 q1 x rx => ?_)
  cases v with
  | fro l =>
    obtain ⟨a, xs, ex, h1, h2⟩ := rx
    exact ⟨a, ex, ⟨xs, h1.l⟩, lc_w ho (itf_w h1 h2).1 (itf_w h1 h2).2 S1 (sl.ext x1) q1⟩
  | obj i =>
    cases e : G1[i]? with
    | none => simp only [e] at q1; exact q1.elim
    | some o =>
      simp only [e] at q1
      cases o with
      | lst l =>
        obtain ⟨xs, h1, h2⟩ := S1.lst e
        exact ⟨ι1 i, rx.2, ⟨xs, .of h1⟩, lcOb_w ho rx.1 S1 (sl.ext x1) q1⟩
      | _ => exact q1.elim
  | _ => exact q1.elim
theorem re_lcT (hc : X.calm = true) (hN : X.N.Nodup) (hi : RE X E iter mi) (ok : BlkOk X.N X.env.scope scope own) (ho : ∀ i ∈ p.slots, i ∈ own.map (·.2))
    (hg : ∀ s H C cl fp, RG (Blk X scope s H C cl fp) tg p) (ht : ∀ s H C cl fp, PTs (Blk X scope s H C cl fp) ifs (tT X.K E tt)) (he : ∀ s H C cl fp, RE (Blk X scope s H C cl fp) E elt te)
    (hs : ∀ x, foldedSetIterable iter X.env x = pure x := by intro _; rfl) : RE X E (.ListComp elt [⟨tg, iter, ifs, 0⟩] scope pos) (eLcT mi p tt te (own.map (·.2))) := by
  refine pe_weak (pe_lc (g := tG X.K p) (tt := tT X.K E tt) (te := tE X.K E te) hc hN (pi_tup hi) ok hg ht he hs) fun σ H Q ⟨ι, G, ρ, S, sl, q⟩ => run1 S sl ((Post.bind q).mono fun ι1 G1 H1 v x1 S1 q1 x rx => ?_)
  cases v with
  | tup l =>
    obtain ⟨a, xs, ex, h1, h2⟩ := rx
    exact ⟨a, ex, ⟨xs, h1⟩, lc_w ho (itt_w h1 h2).1 (itt_w h1 h2).2 S1 (sl.ext x1) q1⟩
  | _ => exact q1.elim
theorem re_lcR1 {a : Expr} {ma : AM} {pr pos' : Pos} (hc : X.calm = true) (hN : X.N.Nodup) (hgl : Gl X "range") (hm : X.mg "range" = none) (ha : RA X E [a] ma) (ok : BlkOk X.N X.env.scope scope own) (ho : ∀ i ∈ p.slots, i ∈ own.map (·.2))
    (hg : ∀ s H C cl fp, RG (Blk X scope s H C cl fp) tg p) (ht : ∀ s H C cl fp, PTs (Blk X scope s H C cl fp) ifs (tT X.K E tt)) (he : ∀ s H C cl fp, RE (Blk X scope s H C cl fp) E elt te)
    (hs1 : starEach [a] X.env = [(false, eval a X.env)] := by rfl) (hs : ∀ x, foldedSetIterable (.Call (.Name "range" pr) [a] [] pos') X.env x = pure x := by intro _; rfl) :
    RE X E (.ListComp elt [⟨tg, .Call (.Name "range" pr) [a] [] pos', ifs, 0⟩] scope pos) (eLcR rng1 ma p tt te (own.map (·.2))) := by
  refine pe_weak (pe_lc (g := tG X.K p) (tt := tT X.K E tt) (te := tE X.K E te) hc hN (pi_range1 hgl hm ha hs1) ok hg ht he hs) fun σ H Q ⟨ι, G, ρ, S, sl, q⟩ => ⟨ι, G, ρ, S, sl, (Post.bind q).mono fun ι1 G1 H1 vs x1 S1 q1 xs rxs => ?_⟩
  cases e : rng1 vs with
  | none => rw [e] at q1; exact q1.elim
  | some l =>
    rw [e] at q1
    obtain ⟨j, e1, h1, h2, rfl⟩ := rng1_inv rxs e
    exact ⟨j, e1, h1, h2, lc_w ho itr_w.1 itr_w.2 S1 (sl.ext x1) q1⟩
theorem re_lcR2 {a c : Expr} {ma : AM} {pr pos' : Pos} (hc : X.calm = true) (hN : X.N.Nodup) (hgl : Gl X "range") (hm : X.mg "range" = none) (ha : RA X E [a, c] ma) (ok : BlkOk X.N X.env.scope scope own) (ho : ∀ i ∈ p.slots, i ∈ own.map (·.2))
    (hg : ∀ s H C cl fp, RG (Blk X scope s H C cl fp) tg p) (ht : ∀ s H C cl fp, PTs (Blk X scope s H C cl fp) ifs (tT X.K E tt)) (he : ∀ s H C cl fp, RE (Blk X scope s H C cl fp) E elt te)
    (hs1 : starEach [a, c] X.env = [(false, eval a X.env), (false, eval c X.env)] := by rfl) (hs2 : starEach [c] X.env = [(false, eval c X.env)] := by rfl) (hs : ∀ x, foldedSetIterable (.Call (.Name "range" pr) [a, c] [] pos') X.env x = pure x := by intro _; rfl) :
    RE X E (.ListComp elt [⟨tg, .Call (.Name "range" pr) [a, c] [] pos', ifs, 0⟩] scope pos) (eLcR rng2 ma p tt te (own.map (·.2))) := by
  refine pe_weak (pe_lc (g := tG X.K p) (tt := tT X.K E tt) (te := tE X.K E te) hc hN (pi_range2 hgl hm ha hs1 hs2) ok hg ht he hs) fun σ H Q ⟨ι, G, ρ, S, sl, q⟩ => ⟨ι, G, ρ, S, sl, (Post.bind q).mono fun ι1 G1 H1 vs x1 S1 q1 xs rxs => ?_⟩
  cases e : rng2 vs with
  | none => rw [e] at q1; exact q1.elim
  | some l =>
    rw [e] at q1
    obtain ⟨i, j, e1, h1, rfl⟩ := rng2_inv rxs e
    exact ⟨i, j, e1, h1, lc_w ho itr_w.1 itr_w.2 S1 (sl.ext x1) q1⟩
/-- name = [..] on one line -/
theorem rs_setLc {i : Nat} {y : Str} {py spos : Pos} {wi : TI} {m : EM} (hc : X.calm = true) (hN : X.N.Nodup) (hy : X.N[i]? = some y) (hyl : X.env.scope.names.lookup y = some .local)
    (hsw : swapsWith (.ListComp elt [⟨tg, iter, ifs, 0⟩] scope pos) (some (.Name y py)) spos.line X.env = pure true) (hi : PI X tg iter wi) (ok : BlkOk X.N X.env.scope scope own)
    (hg : ∀ s H C cl fp, RG (Blk X scope s H C cl fp) tg p) (ht : ∀ s H C cl fp, PTs (Blk X scope s H C cl fp) ifs (tT X.K E tt)) (he : ∀ s H C cl fp, RE (Blk X scope s H C cl fp) E elt te)
    (w : ∀ σ H Q, tE X.K E m σ H Q → tLc wi (tG X.K p) (tT X.K E tt) (tE X.K E te) (own.map (·.2)) σ H Q) (hs : ∀ x, foldedSetIterable iter X.env x = pure x := by intro _; rfl) :
    RS X E (.Assign [.Name y py] (.ListComp elt [⟨tg, iter, ifs, 0⟩] scope pos) spos) (sSet i m) :=
  ps_weak (ps_setLc (g := tG X.K p) (tt := tT X.K E tt) (te := tE X.K E te) hc hN hy hyl hsw hi ok hg ht he hs) fun D σ H ⟨ι, G, ρ, S, sl, q⟩ => w σ H _ (run1 S sl (q.ofRes.mono fun ι1 G1 H1 v x1 S1 p1 x rx => p1 ι1 H1 (σ.set i (some x)) .refl S1 ((sl.ext x1).set rx i)))
end
end R1

/-! R1g: op=, places given values, methods of lists and dicts, isinstance, constants of the module. -/
namespace R1
open PySem PySem.Spec PyProof.Rows L2

/-! ### name += e, o.f += e, xs[i] += e (ints) -/
def addI (v w : Val) : Option Val := match v, w with
  | .int i, .int j => some (.int (i + j))
  | _, _ => none
def sAug (i : Nat) (m : EM) : SM := fun ρ G => match ρ[i]? with
  | some (some v) => (m ρ G).toS fun w G1 => (match addI v w with
    | some z => .next (ρ.set i (some z)) G1
    | none => .bad)
  | _ => .bad
/-- o.f += e, o an instance of the class c -/
def sFldAug1 (c p : Nat) (o m : EM) : SM := fun ρ G => (o ρ G).toS fun w G1 => match w with
  | .obj i => (match G1[i]? with
    | some (.ins c' vs) => if c' = c then (match vs[p]? with
      | some v => (m ρ G1).toS fun u G2 => (match addI v u with
        | some z => (match setFld c p w z G2 with
          | some G3 => .next ρ G3
          | none => .bad)
        | none => .bad)
      | none => .bad) else .bad
    | _ => .bad)
  | _ => .bad
theorem addI_inv {v w z : Val} (h : addI v w = some z) : ∃ i j, v = .int i ∧ w = .int j ∧ z = .int (i + j) := by
  unfold addI at h
  cases v with
  | int i =>
    cases w with
    | int j => exact ⟨i, j, rfl, rfl, (Option.some.inj h).symm⟩
    | _ => cases h
  | _ => cases h
section
variable {X : Cx} {E : XK} {e o : Expr} {me mo : EM} {pos pos' tpos : Pos}
theorem rs_aug {i : Nat} {x : Str} (hN : X.N.Nodup) (hi : X.N[i]? = some x) (hx : Loc X.env.scope x) (he : RE X E e me) (hf : X.fn x = true ∨ X.env.scope.names.lookup x = some .local := by first | exact .inl rfl | exact .inr rfl | assumption) :
    RS X E (.AugAssign (.Name x pos') .Add e pos) (sAug i me) := by
  refine ps_weak (ps_aug hN hi hx he ip_add hf) fun D σ H ⟨ι, G, ρ, S, sl, p⟩ => ?_
  unfold sAug at p
  cases e1 : ρ[i]? with
  | none => rw [e1] at p; exact p.elim
  | some ov =>
    rw [e1] at p
    cases ov with
    | none => exact p.elim
    | some v =>
      obtain ⟨x, hx, rx⟩ := sl.get e1
      have p1 : SPost X.K E ι G.length H ((me ρ G).toS fun w G1 => (match addI v w with | some z => .next (ρ.set i (some z)) G1 | none => .bad)) D := p
      refine ⟨x, hx, run1 S sl (p1.ofRes.mono fun ι1 G1 H1 w x1 S1 p2 y ry => ?_)⟩
      cases e2 : addI v w with
      | none => rw [e2] at p2; exact p2.elim
      | some z =>
        rw [e2] at p2
        obtain ⟨a, b, rfl, rfl, rfl⟩ := addI_inv e2
        exact ⟨a, b, rx, ry, p2 ι1 H1 _ .refl S1 ((sl.ext x1).set (v := .int (a + b)) (x := .int (a + b)) rfl i)⟩
theorem rs_fldaug {c p : Nat} {f : Str} (hf : (cfields c)[p]? = some f) (ho : RE X E o mo) (he : RE X E e me) : RS X E (.AugAssign (.Attribute o f tpos) .Add e pos) (sFldAug1 c p mo me) := by
  refine ps_weak (ps_fldaug ho he in_add) fun D σ H ⟨ι, G, ρ, S, sl, q⟩ => run1 S sl (q.ofRes.mono fun ι1 G1 H1 w x1 S1 q1 x rx => ?_)
  cases w with
  | obj i =>
    cases e1 : G1[i]? with
    | none => simp only [e1] at q1; exact q1.elim
    | some ob =>
      simp only [e1] at q1
      cases ob with
      | ins c' vs =>
        dsimp only at q1
        by_cases hc : c' = c
        · subst hc
          rw [if_pos rfl] at q1
          cases e2 : vs[p]? with
          | none => rw [e2] at q1; exact q1.elim
          | some v =>
            rw [e2] at q1
            dsimp only at q1
            obtain ⟨ck, dx, gs, g1, g2⟩ := S1.ins e1
            obtain ⟨y, ey, ry⟩ := g2.look (fields_ok c').1 hf e2
            refine ⟨ι1 i, _, dx, gs, y, rx.2, g1, ck.cls, ck.fld f (List.mem_of_getElem? hf), ey, run1 S1 (sl.ext x1) (q1.ofRes.mono fun ι2 G2 H2 u x2 S2 q4 z rz => ?_)⟩
            cases e3 : addI v u with
            | none => rw [e3] at q4; exact q4.elim
            | some z' =>
              rw [e3] at q4
              obtain ⟨a, b, rfl, rfl, rfl⟩ := addI_inv e3
              dsimp only at q4
              cases e4 : setFld c' p (.obj i) (.int (a + b)) G2 with
              | none => rw [e4] at q4; exact q4.elim
              | some G3 =>
                rw [e4] at q4
                obtain ⟨a', dx', gs', h1, h2, _, hl, s3, e3'⟩ := setFld_ok (v := .int (a + b)) (y := .int (a + b)) S2 (rx.ext x2) (show Rep X.K ι2 G2.length H2 (.int (a + b)) (.int (a + b)) from rfl) hf e4
                have ea : a' = ι1 i := by
                  have h5 := h1.symm.trans rx.2
                  injection h5
                subst ea
                exact ⟨a, b, ry, rz, dx', gs', h2, hl, q4 ι2 _ σ e3' s3 (sl.ext ((x1.trans x2).trans e3'))⟩
        · rw [if_neg hc] at q1
          exact q1.elim
      | _ => exact q1.elim
  | _ => exact q1.elim
end

/-! ### methods of lists -/
def setLst (v : Val) (f : List Val → Option (List Val)) (G : Store) : Option Store := match v with
  | .obj i => (match G[i]? with
    | some (.lst l) => (f l).map fun l' => G.set i (.lst l')
    | _ => none)
  | _ => none
theorem setLst_ok {K : PySem.W.Frag} {ι : Nat → Addr} {G G' : Store} {H : Hp} {v : Val} {x : V} {f : List Val → Option (List Val)} (S : Sim K ι G H) (rx : Rep K ι G.length H v x) (h : setLst v f G = some G') :
    ∃ i l l' xs, v = .obj i ∧ G[i]? = some (.lst l) ∧ f l = some l' ∧ x = .ref (ι i) ∧ H (ι i) = some (.lst xs) ∧ Reps K ι G.length H l xs ∧
      ∀ xs', Reps K ι G.length H l' xs' → Sim K ι G' (L2.upd H (ι i) (.lst xs')) ∧ Ext K ι G.length H ι G'.length (L2.upd H (ι i) (.lst xs')) := by
  unfold setLst at h
  cases v with
  | obj i =>
    dsimp only at h
    cases e : G[i]? with
    | none => rw [e] at h; cases h
    | some o =>
      rw [e] at h
      cases o with
      | lst l =>
        dsimp only at h
        cases e2 : f l with
        | none => rw [e2] at h; cases h
        | some l' =>
          rw [e2] at h
          cases h
          obtain ⟨xs, h1, h2⟩ := S.lst e
          refine ⟨i, l, l', xs, rfl, e, e2, rx.2, h1, h2, fun xs' r' => ?_⟩
          exact S.set (u := .lst xs') (o := .lst l') e rfl ⟨xs', upd_same, r'.ext (Ext.updE (.some h1 trivial))⟩
      | _ => cases h
  | _ => cases h
/-- xs.append(e) -/
def eApp (o m : EM) : EM := fun ρ G => (o ρ G).bind fun v G1 => match v with
  | .obj i => (match G1[i]? with
    | some (.lst _) => (m ρ G1).bind fun w G2 => (match setLst v (fun l => if l.length < sizeLine then some (l ++ [w]) else none) G2 with
      | some G3 => .ok .non G3
      | none => .bad)
    | _ => .bad)
  | _ => .bad
/-- xs.pop() -/
def ePop (o : EM) : EM := fun ρ G => (o ρ G).bind fun v G1 => match v with
  | .obj i => (match G1[i]? with
    | some (.lst l) => (match l[l.length - 1]? with
      | some w => .ok w (G1.set i (.lst l.dropLast))
      | none => .bad)
    | _ => .bad)
  | _ => .bad
section
variable {X : Cx} {E : XK} {e o : Expr} {me mo : EM} {apos cpos : Pos}
theorem re_app (ho : RE X E o mo) (he : RE X E e me) (h1 : attributeBase o "append" X.env (eval o X.env) = eval o X.env := by rfl)
    (h2 : (((((backTo cpos (starEach [e] X.env)).all fun x => !x.fst) && (backToKw cpos (keywordEach [] X.env)).all fun x => x.fst.isSome) && decide (([e].length + ([] : List Keyword).length + if ([] : List Keyword).isEmpty = true then 0 else 1) < 30)) = true) := by rfl)
    (h3 : (apos.endLine == cpos.line) = true := by rfl) (h4 : starEach [e] X.env = (false, eval e X.env) :: starEach [] X.env := by rfl) (h5 : ((backTo cpos (starEach [] X.env)).any fun x => x.fst) = false := by rfl) :
    RE X E (.Call (.Attribute o "append" apos) [e] [] cpos) (eApp mo me) := by
  refine pe_weak (pe_bm (name := "append") PySem.F.plainAttrs_list PySem.F.slot_list_append PySem.F.type_list_append mt_append ho (pa_cons he pa_nil h4) h1 h2 h3 h4 h5) fun σ H Q ⟨ι, G, ρ, S, sl, q⟩ => run1 S sl ((Post.bind q).mono fun ι1 G1 H1 v x1 S1 q1 x rx => ?_)
  cases v with
  | obj i =>
    cases e1 : G1[i]? with
    | none => simp only [e1] at q1; exact q1.elim
    | some ob =>
      simp only [e1] at q1
      cases ob with
      | lst l =>
        obtain ⟨xs, g1, g2⟩ := S1.lst e1
        obtain ⟨hlt, rfl⟩ := rx
        have rx : Rep X.K ι1 G1.length H1 (.obj i) (.ref (ι1 i)) := ⟨hlt, rfl⟩
        dsimp only at q1
        refine ⟨.inl ⟨rfl, _, .of g1⟩, run1 S1 (sl.ext x1) ((Post.bind q1).mono fun ι2 G2 H2 w x2 S2 q2 y ry => ?_)⟩
        cases e3 : setLst (.obj i) (fun l => if l.length < sizeLine then some (l ++ [w]) else none) G2 with
        | none => rw [e3] at q2; exact q2.elim
        | some G3 =>
          rw [e3] at q2
          obtain ⟨j, l2, l3, ys, ev, e4, e5, ex, g3, g4, g5⟩ := setLst_ok S2 (rx.ext x2) e3
          by_cases hl : l2.length < sizeLine
          · rw [if_pos hl] at e5
            cases e5
            obtain ⟨s3, x3⟩ := g5 (ys ++ [y]) (g4.append (Reps.one ry))
            exact ⟨ι2 j, ys, y, ex, rfl, g3, by rw [g4.length]; exact hl, q2 ι2 _ x3 s3 _ rfl⟩
          · rw [if_neg hl] at e5
            cases e5
      | _ => exact q1.elim
  | _ => exact q1.elim
theorem re_pop (ho : RE X E o mo) (h1 : attributeBase o "pop" X.env (eval o X.env) = eval o X.env := by rfl) (h3 : (apos.endLine == cpos.line) = true := by rfl) :
    RE X E (.Call (.Attribute o "pop" apos) [] [] cpos) (ePop mo) := by
  refine pe_weak (pe_bm0 (name := "pop") PySem.F.plainAttrs_list PySem.F.slot_list_pop PySem.F.type_list_pop mt_pop ho h1 h3) fun σ H Q ⟨ι, G, ρ, S, sl, q⟩ => run1 S sl ((Post.bind q).mono fun ι1 G1 H1 v x1 S1 q1 x rx => ?_)
  cases v with
  | obj i =>
    cases e1 : G1[i]? with
    | none => simp only [e1] at q1; exact q1.elim
    | some ob =>
      simp only [e1] at q1
      cases ob with
      | lst l =>
        obtain ⟨xs, g1, g2⟩ := S1.lst e1
        dsimp only at q1
        cases e2 : l[l.length - 1]? with
        | none => rw [e2] at q1; exact q1.elim
        | some w =>
          rw [e2] at q1
          obtain ⟨y, ey, ry⟩ := g2.get e2
          obtain ⟨s3, x3⟩ := S1.set (u := .lst xs.dropLast) (o := .lst l.dropLast) e1 rfl ⟨_, upd_same, g2.dropLast.ext (Ext.updE (.some g1 trivial))⟩
          rw [← g2.length] at ey
          obtain ⟨hlt, rfl⟩ := rx
          exact ⟨.inl ⟨rfl, _, .of g1⟩, ι1 i, xs, y, rfl, rfl, g1, ey, q1 ι1 _ x3 s3 y (ry.ext x3)⟩
      | _ => exact q1.elim
  | _ => exact q1.elim
end

/-! ### isinstance with a built-in class -/
def tyN (G : Store) : Val → Option String
  | .non => some "NoneType"
  | .bl _ => some "bool"
  | .int _ => some "int"
  | .str _ => some "str"
  | .tup _ => some "tuple"
  | .fro _ => some "list"
  | .obj i => match G[i]? with
    | some (.lst _) => some "list"
    | some (.dic _) => some "dict"
    | _ => none
/-- T one of the names int, bool, str, tuple, list -/
def isTy (T n : String) : Bool := n == T || (n == "bool" && T == "int")
def eIsi (T : String) (m : EM) : EM := fun ρ G => (m ρ G).bind fun v G1 => match tyN G1 v with
  | some n => .ok (.bl (isTy T n)) G1
  | none => .bad
def tyNames : List String := ["int", "bool", "str", "tuple", "list"]
theorem kit_all : ∀ T ∈ tyNames, ∀ n ∈ ["NoneType", "bool", "int", "str", "tuple", "list", "dict"], kitB n T = some (isTy T n) := by decide +kernel
theorem tyN_mem {G : Store} {v : Val} {n : String} (h : tyN G v = some n) : n ∈ ["NoneType", "bool", "int", "str", "tuple", "list", "dict"] := by
  unfold tyN at h
  cases v with
  | obj i =>
    dsimp only at h
    cases e : G[i]? with
    | none => rw [e] at h; cases h
    | some o => rw [e] at h; cases o <;> (cases h <;> simp)
  | _ => cases h; simp
theorem ty_at {K : PySem.W.Frag} {ι : Nat → Addr} {G : Store} {H : Hp} {v : Val} {x : V} {n : String} (S : Sim K ι G H) (r : Rep K ι G.length H v x) (h : tyN G v = some n) : TyX K H x (.type n) := by
  cases v with
  | non => cases h; rw [show x = .non from r]; exact .base .non
  | bl b => cases h; rw [show x = .bl b from r]; exact .base (.bl b)
  | int i => cases h; rw [show x = .int i from r]; exact .base (.int i)
  | str k => cases h; rw [show x = .str (nm k) from r]; exact .base (.str _)
  | tup l =>
    cases h
    obtain ⟨a, xs, e, h1, h2⟩ := r
    rw [e]
    rcases h1 with (h1 | ⟨o, h1⟩) | ⟨o, its, n, h1, h3, _⟩
    · exact .base (.tup h1)
    · exact .fTuple h1
    · exact .kTuple h1 h3
  | fro l =>
    cases h
    obtain ⟨a, xs, e, h1, h2⟩ := r
    rw [e]
    rcases h1 with ⟨o, h1⟩ | ⟨o, its, n, h1, h3, _⟩
    · exact .base (.frz h1)
    · exact .kList h1 h3
  | obj i =>
    unfold tyN at h
    dsimp only at h
    rw [r.2]
    cases e : G[i]? with
    | none => rw [e] at h; cases h
    | some o =>
      rw [e] at h
      cases o with
      | lst l =>
        cases h
        obtain ⟨xs, h1, _⟩ := S.lst e
        exact .base (.lst h1)
      | dic l =>
        cases h
        obtain ⟨xs, h1, _⟩ := S.dic e
        exact .base (.dK h1)
      | _ => cases h
section
variable {X : Cx} {E : XK} {e : Expr} {me : EM} {p p2 pos : Pos}
theorem re_isi {T : String} {x : Str} (hT : T ∈ tyNames) (hgi : Gl X "isinstance") (hmi : X.mg "isinstance" = none) (hty : PE X (.Name x p2) (fun σ H Q => Q (.ty T) H)) (he : RE X E e me)
    (h1 : starEach [e, .Name x p2] X.env = (false, eval e X.env) :: starEach [.Name x p2] X.env := by rfl) (h2 : starEach [.Name x p2] X.env = (false, eval (.Name x p2) X.env) :: starEach [] X.env := by rfl) (hpl : (backTo pos (starEach [.Name x p2] X.env)).any (·.1) = false := by rfl) :
    RE X E (.Call (.Name "isinstance" p) [e, .Name x p2] [] pos) (eIsi T me) := by
  refine pe_weak (pe_callB call_isi hgi hmi (by decide +kernel) (pa_cons he (pa_cons hty pa_nil h2) h1) (by decide) (by decide) h1 hpl) fun σ H Q ⟨ι, G, ρ, S, sl, q⟩ => run1 S sl ((Post.bind q).mono fun ι1 G1 H1 v x1 S1 q1 x rx => ?_)
  cases e1 : tyN G1 v with
  | none => rw [e1] at q1; exact q1.elim
  | some n =>
    rw [e1] at q1
    exact ⟨x, .ty T, .type n, .type T, isTy T n, rfl, .ty T, ty_at S1 rx e1, kit_ty (kit_all T hT n (tyN_mem e1)), q1.here S1 _ rfl⟩
end

/-! ### constants of the module -/
section
variable {X : Cx} {E : XK} {x : Str} {p : Pos}
/-- a whole number that the module holds -/
theorem re_gint {i : Int} (hp : PE X (.Name x p) (fun σ H Q => Q (.int i) H)) : RE X E (.Name x p) (eC (.int i)) :=
  pe_weak hp fun σ H Q ⟨ι, G, ρ, S, sl, q⟩ => q.here S _ rfl
end

/-! ### in, not in; sorted, all, any -/
section
variable {X : Cx} {E : XK} {a b : Expr} {ma mb : EM} {pos : Pos}
theorem re_in (hu : X.A.units + 64 < cLine) (ha : RE X E a ma) (hb : RE X E b mb) (hm : behindInMarks .In b = false := by rfl) : RE X E (.Compare a [.In] [b] pos) (eOp (fIn false) ma mb) := re_cmp (op_inP hu) s_in ha hb hm
theorem re_notin (hu : X.A.units + 64 < cLine) (ha : RE X E a ma) (hb : RE X E b mb) (hm : behindInMarks .NotIn b = false := by rfl) : RE X E (.Compare a [.NotIn] [b] pos) (eOp (fIn true) ma mb) := re_cmp (op_notInP hu) s_in ha hb hm
theorem rt_in (hu : X.A.units + 64 < cLine) (ha : RE X E a ma) (hb : RE X E b mb) (hm : behindInMarks .In b = false := by rfl) : RT X E (.Compare a [.In] [b] pos) (eTest (eOp (fIn false) ma mb)) := rt_cmp (op_inP hu) s_in ha hb hm
theorem rt_notin (hu : X.A.units + 64 < cLine) (ha : RE X E a ma) (hb : RE X E b mb) (hm : behindInMarks .NotIn b = false := by rfl) : RT X E (.Compare a [.NotIn] [b] pos) (eTest (eOp (fIn true) ma mb)) := rt_cmp (op_notInP hu) s_in ha hb hm
end
/-- a list's items -/
def itemsL (G : Store) : Val → Option (List Val)
  | .fro l => some l
  | .obj i => match G[i]? with
    | some (.lst l) => some l
    | _ => none
  | _ => none
theorem itemsL_at {K : PySem.W.Frag} {ι : Nat → Addr} {G : Store} {H : Hp} {u : Val} {y : V} {l : List Val} (S : Sim K ι G H) (r : Rep K ι G.length H u y) (h : itemsL G u = some l) : ∃ a ys, y = .ref a ∧ SqL K H a ys ∧ Reps K ι G.length H l ys := by
  unfold itemsL at h
  cases u with
  | fro m =>
    cases h
    obtain ⟨a, xs, e, h1, h2⟩ := r
    exact ⟨a, xs, e, h1.l, h2⟩
  | obj i =>
    dsimp only at h
    cases e0 : G[i]? with
    | none => rw [e0] at h; cases h
    | some o =>
      rw [e0] at h
      cases o with
      | lst m =>
        cases h
        obtain ⟨xs, h1, h2⟩ := S.lst e0
        exact ⟨ι i, xs, r.2, .of h1, h2⟩
      | _ => cases h
  | _ => cases h
/-- one argument, a list -/
theorem one_lst {K : PySem.W.Frag} {E : XK} {ι : Nat → Addr} {G : Store} {H : Hp} {vs : List Val} {xs : List V} {β : Type} {g : List Val → Option β} {k : β → Store → Res Val} {f : F1} {Q : VK} (hf : ∀ vs G, f vs G = match vs with | [v] => (match (itemsL G v).bind g with | some l => k l G | none => .bad) | _ => .bad) (S : Sim K ι G H) (rs : Reps K ι G.length H vs xs)
    (p : Post K E ι G.length H (f vs G) (fun ι' G' H' w => ∀ z, Rep K ι' G'.length H' w z → Q z H')) : ∃ a ys l b, xs = [.ref a] ∧ SqL K H a ys ∧ Reps K ι G.length H l ys ∧ g l = some b ∧ Post K E ι G.length H (k b G) (fun ι' G' H' w => ∀ z, Rep K ι' G'.length H' w z → Q z H') := by
  rw [hf] at p
  cases vs with
  | nil => exact p.elim
  | cons v l =>
    cases l with
    | cons _ _ => exact p.elim
    | nil =>
      dsimp only at p
      cases e : itemsL G v with
      | none => rw [e] at p; exact p.elim
      | some l =>
        rw [e] at p
        dsimp only [Option.bind] at p
        cases e2 : g l with
        | none => rw [e2] at p; exact p.elim
        | some b =>
          rw [e2] at p
          obtain ⟨x, rfl, rx⟩ := reps1 rs
          obtain ⟨a, ys, ex, h1, h2⟩ := itemsL_at S rx e
          exact ⟨a, ys, l, b, by rw [ex], h1, h2, e2, p⟩
def bSortL : F1 := fun vs G => match vs with
  | [v] => (match (itemsL G v).bind asInts with
    | some l => alloc (.lst ((sortI l).map .int)) G
    | none => .bad)
  | _ => .bad
section
variable {K : PySem.W.Frag} {E : XK}
theorem s_sortL : CallS K E (rSortedI K) bSortL := fun ι G H vs xs Q S rs p => by
  obtain ⟨a, ys, l, ns, e, h1, h2, h3, p2⟩ := one_lst (g := asInts) (k := fun l G => alloc (.lst ((sortI l).map .int)) G) (f := bSortL) (fun vs G => by
    unfold bSortL
    rcases vs with _ | ⟨v, _ | ⟨w, l⟩⟩
    · rfl
    · dsimp only
      cases (itemsL G v).bind asInts <;> rfl
    · rfl) S rs p
  have ey := reps_ints h3 h2
  subst ey
  refine ⟨a, ns, e, h1, fun ns' q hp hs hq => ?_⟩
  rw [sortI_uniq hp hs]
  exact post_lst S (ints_reps _) p2 q hq
end
end R1

/-! R1h: what printed proofs name: facts of the top, defs, walks over lists or tuples. -/
namespace R1
open PySem PySem.Spec PyProof.Rows L2

/-! ### one of two ways -/
theorem re_sel {X : Cx} {E : XK} {e : Expr} {m m1 m2 : EM} (h1 : RE X E e m1) (h2 : RE X E e m2) (h : ∀ ρ G, m ρ G = m1 ρ G ∨ m ρ G = m2 ρ G) : RE X E e m := ⟨fun pins s σ H Q I ⟨ι, G, ρ, S, sl, p⟩ => by
  rcases h ρ G with e0 | e0
  · exact h1.run pins s σ H Q I ⟨ι, G, ρ, S, sl, by rw [← e0]; exact p⟩
  · exact h2.run pins s σ H Q I ⟨ι, G, ρ, S, sl, by rw [← e0]; exact p⟩⟩
theorem rt_sel {X : Cx} {E : XK} {e : Expr} {m m1 m2 : TM} (h1 : RT X E e m1) (h2 : RT X E e m2) (h : ∀ ρ G, m ρ G = m1 ρ G ∨ m ρ G = m2 ρ G) : RT X E e m := ⟨fun pins s σ H Q I ⟨ι, G, ρ, S, sl, p⟩ => by
  rcases h ρ G with e0 | e0
  · exact h1.run pins s σ H Q I ⟨ι, G, ρ, S, sl, by rw [← e0]; exact p⟩
  · exact h2.run pins s σ H Q I ⟨ι, G, ρ, S, sl, by rw [← e0]; exact p⟩⟩
theorem rs_sel {X : Cx} {E : XK} {st : Stmt} {m m1 m2 : SM} (h1 : RS X E st m1) (h2 : RS X E st m2) (h : ∀ ρ G, m ρ G = m1 ρ G ∨ m ρ G = m2 ρ G) : RS X E st m := ⟨fun pins s σ H D I ⟨ι, G, ρ, S, sl, p⟩ => by
  rcases h ρ G with e0 | e0
  · exact h1.run pins s σ H D I ⟨ι, G, ρ, S, sl, by rw [← e0]; exact p⟩
  · exact h2.run pins s σ H D I ⟨ι, G, ρ, S, sl, by rw [← e0]; exact p⟩⟩
/-- a walk over a list or a tuple -/
def sForA (m : EM) (p : Pt) (b : SM) : SM := fun ρ G => (m ρ G).toS fun v G1 => match v with
  | .tup l => forIt p b l ρ G1
  | .fro l => forIt p b l ρ G1
  | .obj i => (match G1[i]? with
    | some (.lst l) => forOb p b i l 0 ρ G1
    | _ => .bad)
  | _ => .bad
def eLcA (m : EM) (p : Pt) (tt : TM) (te : EM) (own : List Nat) : EM := fun ρ G => (m ρ G).bind fun v G1 => match v with
  | .tup l => (lcIt p tt te (wipe1 ρ own) G1.length l (G1 ++ [.lst []])).bind fun _ G3 => .ok (.obj G1.length) G3
  | .fro l => (lcIt p tt te (wipe1 ρ own) G1.length l (G1 ++ [.lst []])).bind fun _ G3 => .ok (.obj G1.length) G3
  | .obj i => (match G1[i]? with
    | some (.lst l) => (lcOb p tt te (wipe1 ρ own) G1.length i l 0 (G1 ++ [.lst []])).bind fun _ G3 => .ok (.obj G1.length) G3
    | _ => .bad)
  | _ => .bad
section
variable {X : Cx} {E : XK} {tg iter elt : Expr} {ifs : List Expr} {body : List Stmt} {scope : Scope} {own : List (Str × Nat)} {mi te : EM} {tt : TM} {p : Pt} {b : SM} {pos : Pos}
theorem rs_forA (hp : PassesOwn (model X.prog X.w) X.A X.env X.xe) (hc : X.calm = true) (hi : RE X E iter mi) (hg : RG X tg p) (hb : RSs X E body b) (hs : ∀ x, foldedSetIterable iter X.env x = pure x := by intro _; rfl) :
    RS X E (.For tg iter body [] pos) (sForA mi p b) :=
  rs_sel (rs_forL hp hc hi hg hb hs) (rs_forT hp hc hi hg hb hs) fun ρ G => by
    unfold sForA sForL sForT
    cases mi ρ G with
    | ok v G1 => cases v <;> first | exact .inl rfl | exact .inr rfl
    | _ => exact .inl rfl
theorem lcA_eq (ρ : Env1) (G : Store) (own : List Nat) : eLcA mi p tt te own ρ G = eLcL mi p tt te own ρ G ∨ eLcA mi p tt te own ρ G = eLcT mi p tt te own ρ G := by
  unfold eLcA eLcL eLcT
  cases mi ρ G with
  | ok v G1 => cases v <;> first | exact .inl rfl | exact .inr rfl
  | _ => exact .inl rfl
theorem re_lcA (hc : X.calm = true) (hN : X.N.Nodup) (hi : RE X E iter mi) (ok : BlkOk X.N X.env.scope scope own) (ho : ∀ i ∈ p.slots, i ∈ own.map (·.2))
    (hg : ∀ s H C cl fp, RG (Blk X scope s H C cl fp) tg p) (ht : ∀ s H C cl fp, PTs (Blk X scope s H C cl fp) ifs (tT X.K E tt)) (he : ∀ s H C cl fp, RE (Blk X scope s H C cl fp) E elt te)
    (hs : ∀ x, foldedSetIterable iter X.env x = pure x := by intro _; rfl) : RE X E (.ListComp elt [⟨tg, iter, ifs, 0⟩] scope pos) (eLcA mi p tt te (own.map (·.2))) :=
  re_sel (re_lcL hc hN hi ok ho hg ht he hs) (re_lcT hc hN hi ok ho hg ht he hs) fun ρ G => lcA_eq ρ G _
/-! what a walk asks, for the statement name = [..] -/
theorem lcL_w {K : PySem.W.Frag} {own : List Nat} (ho : ∀ i ∈ p.slots, i ∈ own) : ∀ σ H Q, tE K E (eLcL mi p tt te own) σ H Q → tLc (iList K (tE K E mi)) (tG K p) (tT K E tt) (tE K E te) own σ H Q := fun σ H Q ⟨ι, G, ρ, S, sl, q⟩ => run2 S sl ((Post.bind q).mono fun ι1 G1 H1 v x1 S1 q1 x rx => by
  cases v with
  | fro l =>
    obtain ⟨a, xs, ex, h1, h2⟩ := rx
    exact ⟨a, ex, ⟨xs, h1.l⟩, lc_w ho (itf_w h1 h2).1 (itf_w h1 h2).2 S1 (sl.ext x1) q1⟩
  | obj i =>
    cases e : G1[i]? with
    | none => simp only [e] at q1; exact q1.elim
    | some o =>
      simp only [e] at q1
      cases o with
      | lst l =>
        obtain ⟨xs, h1, h2⟩ := S1.lst e
        exact ⟨ι1 i, rx.2, ⟨xs, .of h1⟩, lcOb_w ho rx.1 S1 (sl.ext x1) q1⟩
      | _ => exact q1.elim
  | _ => exact q1.elim)
theorem lcT_w {K : PySem.W.Frag} {own : List Nat} (ho : ∀ i ∈ p.slots, i ∈ own) : ∀ σ H Q, tE K E (eLcT mi p tt te own) σ H Q → tLc (iTup K (tE K E mi)) (tG K p) (tT K E tt) (tE K E te) own σ H Q := fun σ H Q ⟨ι, G, ρ, S, sl, q⟩ => run2 S sl ((Post.bind q).mono fun ι1 G1 H1 v x1 S1 q1 x rx => by
  cases v with
  | tup l =>
    obtain ⟨a, xs, ex, h1, h2⟩ := rx
    exact ⟨a, ex, ⟨xs, h1⟩, lc_w ho (itt_w h1 h2).1 (itt_w h1 h2).2 S1 (sl.ext x1) q1⟩
  | _ => exact q1.elim)
theorem lcR1_w {K : PySem.W.Frag} {ma : AM} {own : List Nat} (ho : ∀ i ∈ p.slots, i ∈ own) : ∀ σ H Q, tE K E (eLcR rng1 ma p tt te own) σ H Q → tLc (iRng1 (tA K E ma)) (tG K p) (tT K E tt) (tE K E te) own σ H Q := fun σ H Q ⟨ι, G, ρ, S, sl, q⟩ => ⟨ι, G, ρ, S, sl, (Post.bind q).mono fun ι1 G1 H1 vs x1 S1 q1 xs rxs => by
  cases e : rng1 vs with
  | none => rw [e] at q1; exact q1.elim
  | some l =>
    rw [e] at q1
    obtain ⟨j, e1, h1, h2, rfl⟩ := rng1_inv rxs e
    exact ⟨j, e1, h1, h2, lc_w ho itr_w.1 itr_w.2 S1 (sl.ext x1) q1⟩⟩
theorem lcR2_w {K : PySem.W.Frag} {ma : AM} {own : List Nat} (ho : ∀ i ∈ p.slots, i ∈ own) : ∀ σ H Q, tE K E (eLcR rng2 ma p tt te own) σ H Q → tLc (iRng2 (tA K E ma)) (tG K p) (tT K E tt) (tE K E te) own σ H Q := fun σ H Q ⟨ι, G, ρ, S, sl, q⟩ => ⟨ι, G, ρ, S, sl, (Post.bind q).mono fun ι1 G1 H1 vs x1 S1 q1 xs rxs => by
  cases e : rng2 vs with
  | none => rw [e] at q1; exact q1.elim
  | some l =>
    rw [e] at q1
    obtain ⟨i, j, e1, h1, rfl⟩ := rng2_inv rxs e
    exact ⟨i, j, e1, h1, lc_w ho itr_w.1 itr_w.2 S1 (sl.ext x1) q1⟩⟩
theorem rs_setLcA {i : Nat} {y : Str} {py spos : Pos} (hc : X.calm = true) (hN : X.N.Nodup) (hy : X.N[i]? = some y) (hyl : X.env.scope.names.lookup y = some .local)
    (hsw : swapsWith (.ListComp elt [⟨tg, iter, ifs, 0⟩] scope pos) (some (.Name y py)) spos.line X.env = pure true) (hi : RE X E iter mi) (ok : BlkOk X.N X.env.scope scope own) (ho : ∀ i ∈ p.slots, i ∈ own.map (·.2))
    (hg : ∀ s H C cl fp, RG (Blk X scope s H C cl fp) tg p) (ht : ∀ s H C cl fp, PTs (Blk X scope s H C cl fp) ifs (tT X.K E tt)) (he : ∀ s H C cl fp, RE (Blk X scope s H C cl fp) E elt te)
    (hs : ∀ x, foldedSetIterable iter X.env x = pure x := by intro _; rfl) : RS X E (.Assign [.Name y py] (.ListComp elt [⟨tg, iter, ifs, 0⟩] scope pos) spos) (sSet i (eLcA mi p tt te (own.map (·.2)))) :=
  rs_sel (rs_setLc hc hN hy hyl hsw (pi_list hi) ok hg ht he (lcL_w ho) hs) (rs_setLc hc hN hy hyl hsw (pi_tup hi) ok hg ht he (lcT_w ho) hs) fun ρ G => by
    unfold sSet
    rcases lcA_eq (mi := mi) (p := p) (tt := tt) (te := te) ρ G (own.map (·.2)) with e | e
    · exact .inl (by rw [e])
    · exact .inr (by rw [e])
theorem rs_setLcR1 {i : Nat} {y : Str} {a : Expr} {ma : AM} {py spos pr pos' : Pos} (hc : X.calm = true) (hN : X.N.Nodup) (hy : X.N[i]? = some y) (hyl : X.env.scope.names.lookup y = some .local)
    (hsw : swapsWith (.ListComp elt [⟨tg, .Call (.Name "range" pr) [a] [] pos', ifs, 0⟩] scope pos) (some (.Name y py)) spos.line X.env = pure true) (hgl : Gl X "range") (hm : X.mg "range" = none) (ha : RA X E [a] ma) (ok : BlkOk X.N X.env.scope scope own) (ho : ∀ i ∈ p.slots, i ∈ own.map (·.2))
    (hg : ∀ s H C cl fp, RG (Blk X scope s H C cl fp) tg p) (ht : ∀ s H C cl fp, PTs (Blk X scope s H C cl fp) ifs (tT X.K E tt)) (he : ∀ s H C cl fp, RE (Blk X scope s H C cl fp) E elt te)
    (hs1 : starEach [a] X.env = [(false, eval a X.env)] := by rfl) (hs : ∀ x, foldedSetIterable (.Call (.Name "range" pr) [a] [] pos') X.env x = pure x := by intro _; rfl) :
    RS X E (.Assign [.Name y py] (.ListComp elt [⟨tg, .Call (.Name "range" pr) [a] [] pos', ifs, 0⟩] scope pos) spos) (sSet i (eLcR rng1 ma p tt te (own.map (·.2)))) :=
  rs_setLc hc hN hy hyl hsw (pi_range1 hgl hm ha hs1) ok hg ht he (lcR1_w ho) hs
theorem rs_setLcR2 {i : Nat} {y : Str} {a c : Expr} {ma : AM} {py spos pr pos' : Pos} (hc : X.calm = true) (hN : X.N.Nodup) (hy : X.N[i]? = some y) (hyl : X.env.scope.names.lookup y = some .local)
    (hsw : swapsWith (.ListComp elt [⟨tg, .Call (.Name "range" pr) [a, c] [] pos', ifs, 0⟩] scope pos) (some (.Name y py)) spos.line X.env = pure true) (hgl : Gl X "range") (hm : X.mg "range" = none) (ha : RA X E [a, c] ma) (ok : BlkOk X.N X.env.scope scope own) (ho : ∀ i ∈ p.slots, i ∈ own.map (·.2))
    (hg : ∀ s H C cl fp, RG (Blk X scope s H C cl fp) tg p) (ht : ∀ s H C cl fp, PTs (Blk X scope s H C cl fp) ifs (tT X.K E tt)) (he : ∀ s H C cl fp, RE (Blk X scope s H C cl fp) E elt te)
    (hs1 : starEach [a, c] X.env = [(false, eval a X.env), (false, eval c X.env)] := by rfl) (hs2 : starEach [c] X.env = [(false, eval c X.env)] := by rfl) (hs : ∀ x, foldedSetIterable (.Call (.Name "range" pr) [a, c] [] pos') X.env x = pure x := by intro _; rfl) :
    RS X E (.Assign [.Name y py] (.ListComp elt [⟨tg, .Call (.Name "range" pr) [a, c] [] pos', ifs, 0⟩] scope pos) spos) (sSet i (eLcR rng2 ma p tt te (own.map (·.2)))) :=
  rs_setLc hc hN hy hyl hsw (pi_range2 hgl hm ha hs1 hs2) ok hg ht he (lcR2_w ho) hs
end

/-! ### all, any -/
def bAllL : F1 := fun vs G => match vs with
  | [v] => (match (itemsL G v).bind asBls with
    | some l => .ok (.bl (l.all id)) G
    | none => .bad)
  | _ => .bad
def bAnyL : F1 := fun vs G => match vs with
  | [v] => (match (itemsL G v).bind asBls with
    | some l => .ok (.bl (l.any id)) G
    | none => .bad)
  | _ => .bad
section
variable {K : PySem.W.Frag} {E : XK}
theorem s_all : CallS K E (rAll K) bAllL := fun ι G H vs xs Q S rs p => by
  obtain ⟨a, ys, l, ns, e, h1, h2, h3, p2⟩ := one_lst (g := asBls) (k := fun l G => .ok (.bl (l.all id)) G) (f := bAllL) (fun vs G => by
    unfold bAllL
    rcases vs with _ | ⟨v, _ | ⟨w, l⟩⟩
    · rfl
    · dsimp only
      cases (itemsL G v).bind asBls <;> rfl
    · rfl) S rs p
  have ey := reps_bls h3 h2
  subst ey
  exact ⟨a, ns, e, h1, p2.here S _ rfl⟩
theorem s_any : CallS K E (rAny K) bAnyL := fun ι G H vs xs Q S rs p => by
  obtain ⟨a, ys, l, ns, e, h1, h2, h3, p2⟩ := one_lst (g := asBls) (k := fun l G => .ok (.bl (l.any id)) G) (f := bAnyL) (fun vs G => by
    unfold bAnyL
    rcases vs with _ | ⟨v, _ | ⟨w, l⟩⟩
    · rfl
    · dsimp only
      cases (itemsL G v).bind asBls <;> rfl
    · rfl) S rs p
  have ey := reps_bls h3 h2
  subst ey
  exact ⟨a, ns, e, h1, p2.here S _ rfl⟩
end

theorem plOk_by {f : Str} {pl : List (Nat × Nat)} (h : (pl.all fun q => decide ((cfields q.1)[q.2]? = some f)) = true) : PlOk f pl := fun q hq => of_decide_eq_true (List.all_eq_true.mp h q hq)
/-! ### names -/
section
variable {X : Cx} {E : XK} {pos : Pos}
theorem rv (i : Nat) {x : Str} (hN : X.N[i]? = some x := by rfl) (hv : Vis X.env.scope x := by first | exact .inl rfl | exact .inr (.inl rfl) | exact .inr (.inr rfl)) (hd : (x == ("__debug__" : Str)) = false := by decide) (hcd : (x == ("__classdict__" : Str)) = false := by decide) : RE X E (.Name x pos) (eVar i) := re_var hN hv hd hcd
theorem rgn (i : Nat) {x : Str} (hN : X.N.Nodup) (hi : X.N[i]? = some x := by rfl) (hx : L2.Loc X.env.scope x := by first | exact .inl rfl | exact .inr rfl) (hf : X.fn x = true ∨ X.env.scope.names.lookup x = some .local := by first | exact .inl rfl | exact .inr rfl) : RG X (.Name x pos) (.nm i) := rg_name hN hi hx hf
theorem rgc (i : Nat) {l : List Nat} {x : Str} {es : List Expr} (hN : X.N.Nodup) (h2 : RGs X es l) (hi : X.N[i]? = some x := by rfl) (hx : L2.Loc X.env.scope x := by first | exact .inl rfl | exact .inr rfl)
    (hf : X.fn x = true ∨ X.env.scope.names.lookup x = some .local := by first | exact .inl rfl | exact .inr rfl) (hs : assignEach (.Name x pos :: es) X.env = (false, assign (.Name x pos) X.env) :: assignEach es X.env := by rfl) : RGs X (.Name x pos :: es) (i :: l) := rgs_cons hN hi hx h2 hf hs
theorem rst (i : Nat) {x : Str} {e : Expr} {me : EM} {pos' : Pos} (hN : X.N.Nodup) (he : RE X E e me) (hi : X.N[i]? = some x := by rfl) (hx : L2.Loc X.env.scope x := by first | exact .inl rfl | exact .inr rfl) (hs : swapsWith e (some (.Name x pos')) pos.line X.env = pure false := by rfl) (hf : X.fn x = true ∨ X.env.scope.names.lookup x = some .local := by first | exact .inl rfl | exact .inr rfl) :
    RS X E (.Assign [.Name x pos'] e pos) (sSet i me) := rs_set hN hi hx he hs hf
theorem rsaug (i : Nat) {x : Str} {e : Expr} {me : EM} {pos' : Pos} (hN : X.N.Nodup) (he : RE X E e me) (hi : X.N[i]? = some x := by rfl) (hx : L2.Loc X.env.scope x := by first | exact .inl rfl | exact .inr rfl) (hf : X.fn x = true ∨ X.env.scope.names.lookup x = some .local := by first | exact .inl rfl | exact .inr rfl) :
    RS X E (.AugAssign (.Name x pos') .Add e pos) (sAug i me) := rs_aug hN hi hx he hf
def eNeg (m : EM) : EM := fun ρ G => (m ρ G).bind fun v G1 => match v with
  | .int i => .ok (.int (-i)) G1
  | _ => .bad
theorem re_neg {e : Expr} {me : EM} (he : RE X E e me) : RE X E (.UnaryOp .USub e pos) (eNeg me) := by
  refine pe_weak (pe_un un_neg he) fun σ H Q ⟨ι, G, ρ, S, sl, p⟩ => run1 S sl ((Post.bind p).mono fun ι1 G1 H1 v x1 S1 p1 x rx => ?_)
  cases v with
  | int i => exact ⟨i, rx, p1.here S1 _ rfl⟩
  | _ => exact p1.elim
end

/-! ### facts of the top -/
theorem passE {X : Cx} {E : XK} : Passes CX0 X E := fun _ _ _ _ _ _ _ h => h.elim
structure Txt (fa : List He.Fa) (fn : List He.DefD) (K : PySem.W.Frag) (mg : Str → Option Value) : Prop where
  says : He.SaysD fa fn K
  ns : ∃ h : Heap, K.In h ∧ h.Ns mainGlobals mg
section
variable {fa : List He.Fa} {fn : List He.DefD} {P : Program} {w : World} {K : PySem.W.Frag} {mg : Str → Option Value} {base : Heap}
theorem Txt.glo (T : Txt fa fn K mg) (i : Nat) {x : Str} (h : fa[i]? = some (.glo x) := by rfl) : mg x = some (.ref (He.ga K x)) := by
  obtain ⟨hp, h1, h2⟩ := T.ns
  exact He.glo_ok h1 h2 (T.says.fact i h)
theorem Txt.free (T : Txt fa fn K mg) (i : Nat) {x : Str} (h : fa[i]? = some (.free x) := by rfl) : mg x = none := by
  obtain ⟨hp, h1, h2⟩ := T.ns
  exact He.free_ok h1 h2 (T.says.fact i h)
theorem Txt.int (T : Txt fa fn K mg) (i : Nat) {x : Str} {k : Int} (h : fa[i]? = some (.int x k) := by rfl) : ∃ t, mg x = some (.int k t) := by
  obtain ⟨hp, h1, h2⟩ := T.ns
  exact He.int_ok h1 h2 (T.says.fact i h)
/-- a whole number of the module -/
theorem rgi {X : Cx} {E : XK} {x : Str} {p : Pos} {k : Int} (T : Txt fa fn X.K X.mg) (i : Nat) (hg : Gl X x := by rfl) (h : fa[i]? = some (.int x k) := by rfl) (hd : (x == ("__debug__" : Str)) = false := by decide) : RE X E (.Name x p) (eC (.int k)) := by
  obtain ⟨t, ht⟩ := T.int i h
  exact re_gint (pe_glob hg ht ⟨t, rfl⟩ hd)
/-- a built-in class's name -/
theorem pty {X : Cx} {x : Str} {T : String} {p : Pos} (E0 : Txt fa fn X.K X.mg) (i : Nat) (hv : bootBuiltins x = some (.type T)) (hg : Gl X x := by rfl) (h : fa[i]? = some (.free x) := by rfl) (hn : x ≠ ("__name__" : Str) := by decide) (hd : (x == ("__debug__" : Str)) = false := by decide) : PE X (.Name x p) (fun σ H Q => Q (.ty T) H) := pe_bltn hg (E0.free i h) hv rfl hn hd
/-- the classes -/
theorem Txt.clsOk (T : Txt fa fn K mg) (c i j : Nat) (hi : fa[i]? = some (.cls (cname c)) := by rfl) (hj : (fa.drop j).take (cfields c).length = (cfields c).map (He.Fa.noat (cname c)) := by rfl) : ClsOk K c := by
  refine ⟨He.cls_ok (T.says.fact i hi), fun f hf => ?_⟩
  have hm : He.Fa.noat (cname c) f ∈ fa := by
    have h1 : He.Fa.noat (cname c) f ∈ (cfields c).map (He.Fa.noat (cname c)) := List.mem_map_of_mem hf
    rw [← hj] at h1
    exact List.mem_of_mem_drop (List.mem_of_mem_take h1)
  obtain ⟨k, hk, e⟩ := List.getElem_of_mem hm
  exact He.noat_ok (T.says.fact k (by rw [List.getElem?_eq_getElem hk, e]))
variable {params : Arguments} {body : List Stmt} {scope : Scope} {N ps : List Str} {k : Nat} {b : SM}
/-- how arguments meet parameters -/
abbrev BindOk (x qual : Str) (params : Arguments) (body : List Stmt) (scope : Scope) (ps : List Str) : Prop := ∀ (kV doc pm : Value) (an : Option Addr) (cdv ct : Value) (us : List Value), us.length = ps.length →
  bindArgs (PySem.W.fnOf x qual params body scope Value.none kV doc pm an cdv ct) { pos := us } = pure (ps.zip us)
abbrev Body0 (P : Program) (w : World) (K : PySem.W.Frag) (mg : Str → Option Value) (base : Heap) (N : List Str) (qual : Str) (body : List Stmt) (scope : Scope) (fa : Addr) (k : Nat) (b : SM) : Prop := ∀ (cdv : Value) (A : Around) (outer : List PySem.Env) (s : Shared) (H : Hp) (E : XK), Room k (A.deeper (envOfC qual scope s.heap.objs.size fa cdv)) →
  RSs (cxOf CX0 P w K mg base N qual scope fa cdv A outer s H E).nox E body b

theorem fn_ok0 {x qual : Str} {f : Addr} {fd : FuncData} {dvs : List V} {kws : List (Str × V)} (F : FunD K x qual params body scope dvs kws f fd) (S : FnScope N ps scope) (hb : Body0 P w K mg base N qual body scope f k b) :
    FnOk P w K mg base CX0 (k + 1) f fd ps (spF K ps.length (runDef N.length ps.length b)) := fn_ok F S fun cdv A outer s H E hr => PSs.nox (hb cdv A outer s H E hr)
theorem gf0 (T : Txt fa fn K mg) (i j : Nat) {x : Str} (S : FnScope N ps scope) (hb : ∀ f, Body0 P w K mg base N x body scope f k b) (B : BindOk x x params body scope ps) (hi : fn[i]? = some ⟨(x, none), x, x, params, body, scope, [], []⟩ := by rfl) (hj : fa[j]? = some (.glo x) := by rfl) :
    GF P w K mg base CX0 (k + 1) x ps.length (runDef N.length ps.length b) [] := by
  obtain ⟨fd, F⟩ := T.says.def_ i hi
  exact ⟨_, fd, ps, [], T.glo j hj, F.kp, fn_ok0 F S (hb _), F.bindsN B, rfl, .nil⟩
theorem mf0 (T : Txt fa fn K mg) (i j l c : Nat) {m q : Str} (S : FnScope N ps scope) (hb : ∀ f, Body0 P w K mg base N q body scope f k b) (B : BindOk m q params body scope ps) (hi : fn[i]? = some ⟨(cname c, some m), m, q, params, body, scope, [], []⟩ := by rfl) (hj : fa[j]? = some (.meth (cname c) m) := by rfl) (hl : fa[l]? = some (.cls (cname c)) := by rfl) (hm : m ∉ cfields c := by decide +kernel) :
    MF P w K mg base CX0 (k + 1) c m ps.length (runDef N.length ps.length b) [] := by
  obtain ⟨fd, F⟩ := T.says.def_ i hi
  exact ⟨hm, He.cls_ok (T.says.fact l hl), _, fd, ps, [], He.meth_ok (T.says.fact j hj), fn_ok0 F S (hb _), F.bindsN B, rfl, .nil⟩
theorem cf0 (T : Txt fa fn K mg) (i j l c : Nat) {q : Str} (ok : ClsOk K c) (S : FnScope N ps scope) (hb : ∀ f, Body0 P w K mg base N q body scope f k b) (B : BindOk "__init__" q params body scope ps) (hi : fn[i]? = some ⟨(cname c, some "__init__"), "__init__", q, params, body, scope, [], []⟩ := by rfl) (hj : fa[j]? = some (.mkr (cname c)) := by rfl) (hl : fa[l]? = some (.glo (cname c)) := by rfl) :
    CF P w K mg base CX0 (k + 1) c ps.length (runDef N.length ps.length b) [] := by
  obtain ⟨fd, F⟩ := T.says.def_ i hi
  exact ⟨ok, T.glo l hl, _, fd, ps, [], He.mkr_ok (T.says.fact j hj), fn_ok0 F S (hb _), F.bindsN B, rfl, .nil⟩

/-- the law's own promise, from what its mirror answers -/
theorem end_of {H : Hp} {a : Addr} {ns : List Int} {m : F1} {E : XK} (ho : Only H) (hS : SqL K H a (ns.map V.int)) (h : ∃ G, m [.fro (ns.map Val.int)] [] = .ok (.bl true) G) : spF K 1 m [.ref a] H (fun v _ => v = .bl true) E := by
  obtain ⟨G, e⟩ := h
  refine ⟨fun _ => 0, [], [.fro (ns.map Val.int)], ⟨fun i j hi => absurd hi (Nat.not_lt_zero i), fun i o e => by simp at e⟩, ⟨.ref a, [], rfl, ⟨a, _, rfl, ?_, ints_reps ns⟩, rfl⟩, rfl, ?_⟩
  · rcases hS with h | h
    · rcases h with h | h
      · rcases ho a with e | ⟨o, xs, e⟩
        · rw [e] at h
          cases h
        · rw [e] at h
          cases h
      · exact .inl h
    · exact .inr h
  · rw [e]
    exact fun ι' H' x S z rz => rz
end
end R1

/-! R2a: what must hold that a combinator ends well, as a proposition that simp walks through. -/
namespace R1
open PySem

def W {α : Type} (r : Res α) (Q : α → Store → Prop) : Prop := match r with
  | .ok a G => Q a G
  | _ => False
def WS (r : SR) (N : Env1 → Store → Prop) (T : Val → Store → Prop) (B C : Env1 → Store → Prop) : Prop := match r with
  | .next ρ G => N ρ G
  | .ret v G => T v G
  | .brk ρ G => B ρ G
  | .cont ρ G => C ρ G
  | _ => False
section
variable {α β : Type} {G : Store} {ρ : Env1}
@[simp] theorem W_ok {a : α} {Q : α → Store → Prop} : W (.ok a G) Q = Q a G := rfl
@[simp] theorem W_bad {Q : α → Store → Prop} : W (.bad) Q = False := rfl
theorem W_bind {r : Res α} {f : α → Store → Res β} {Q : β → Store → Prop} : W (r.bind f) Q = W r fun a G => W (f a G) Q := by cases r <;> rfl
theorem W_mono {r : Res α} {Q Q' : α → Store → Prop} (h : W r Q) (m : ∀ a G, Q a G → Q' a G) : W r Q' := by
  cases r with
  | ok a G => exact m a G h
  | exc c G => exact h
  | bad => exact h
theorem WS_mono {r : SR} {N N' : Env1 → Store → Prop} {T T' : Val → Store → Prop} {B B' C C' : Env1 → Store → Prop} (h : WS r N T B C) (h1 : ∀ ρ G, N ρ G → N' ρ G) (h2 : ∀ v G, T v G → T' v G) (h3 : ∀ ρ G, B ρ G → B' ρ G) (h4 : ∀ ρ G, C ρ G → C' ρ G) : WS r N' T' B' C' := by
  cases r with
  | next ρ G => exact h1 _ _ h
  | ret v G => exact h2 _ _ h
  | brk ρ G => exact h3 _ _ h
  | cont ρ G => exact h4 _ _ h
  | exc c G => exact h
  | bad => exact h
theorem W_ex {r : Res α} {Q : α → Store → Prop} (h : W r Q) : ∃ a G, r = .ok a G ∧ Q a G := by
  cases r with
  | ok a G => exact ⟨a, G, rfl, h⟩
  | exc c G => exact h.elim
  | bad => exact h.elim
variable {Q : Val → Store → Prop} {QA : List Val → Store → Prop} {QT : Bool → Store → Prop} {N B C : Env1 → Store → Prop} {T : Val → Store → Prop}
theorem WS_toS {r : Res α} {f : α → Store → SR} : WS (r.toS f) N T B C = W r fun a G => WS (f a G) N T B C := by cases r <;> rfl
@[simp] theorem WS_seq {a b : SM} : WS (sSeq a b ρ G) N T B C = WS (a ρ G) (fun ρ G => WS (b ρ G) N T B C) T B C := by
  unfold sSeq
  cases a ρ G <;> rfl
@[simp] theorem WS_pass : WS (sPass ρ G) N T B C = N ρ G := rfl
@[simp] theorem WS_brk : WS (sBrk ρ G) N T B C = B ρ G := rfl
@[simp] theorem WS_cont : WS (sCont ρ G) N T B C = C ρ G := rfl
@[simp] theorem WS_never : WS (sNever ρ G) N T B C = False := rfl
@[simp] theorem WS_ret {m : EM} : WS (sRet m ρ G) N T B C = W (m ρ G) T := by
  unfold sRet
  cases m ρ G <;> rfl
@[simp] theorem WS_retN : WS (sRetN ρ G) N T B C = T .non G := rfl
@[simp] theorem WS_ex {m : EM} : WS (sEx m ρ G) N T B C = W (m ρ G) fun _ G1 => N ρ G1 := by
  unfold sEx
  cases m ρ G <;> rfl
@[simp] theorem WS_set {i : Nat} {m : EM} : WS (sSet i m ρ G) N T B C = W (m ρ G) fun v G1 => N (ρ.set i (some v)) G1 := by
  unfold sSet
  cases m ρ G <;> rfl
@[simp] theorem WS_if {t : TM} {a b : SM} : WS (sIf t a b ρ G) N T B C = W (t ρ G) fun k G1 => (if k = true then WS (a ρ G1) N T B C else WS (b ρ G1) N T B C) := by
  unfold sIf
  cases t ρ G with
  | ok k G1 => cases k <;> rfl
  | exc c G1 => rfl
  | bad => rfl
@[simp] theorem W_var {i : Nat} : W (eVar i ρ G) Q = ∃ v, ρ[i]? = some (some v) ∧ Q v G := by
  unfold eVar
  cases h : ρ[i]? with
  | none => simp
  | some o => cases o with
    | none => simp
    | some v => simp
@[simp] theorem W_c {v : Val} : W (eC v ρ G) Q = Q v G := rfl
@[simp] theorem W_op {f : F2} {a b : EM} : W (eOp f a b ρ G) Q = W (a ρ G) fun v G1 => W (b ρ G1) fun u G2 => W (f v u G2) Q := by
  unfold eOp
  rw [W_bind]
  congr 1
  funext v G1
  rw [W_bind]
@[simp] theorem W_test {m : EM} : W (eTest m ρ G) QT = W (m ρ G) fun v G1 => ∃ b, v = .bl b ∧ QT b G1 := by
  unfold eTest Res.asB
  rw [W_bind]
  congr 1
  funext v G1
  cases v <;> simp
@[simp] theorem W_truth {m : EM} : W (eTruth m ρ G) QT = W (m ρ G) fun v G1 => ∃ b, truth G1 v = some b ∧ QT b G1 := by
  unfold eTruth
  rw [W_bind]
  congr 1
  funext v G1
  cases h : truth G1 v <;> simp [h]
@[simp] theorem W_tnot {m : TM} : W (tNot1 m ρ G) QT = W (m ρ G) fun b G1 => QT (!b) G1 := by
  unfold tNot1
  rw [W_bind]
  rfl
@[simp] theorem W_tand {m k : TM} : W (tAnd1 m k ρ G) QT = W (m ρ G) fun b G1 => if b = true then W (k ρ G1) QT else QT false G1 := by
  unfold tAnd1
  rw [W_bind]
  congr 1
  funext b G1
  cases b <;> rfl
@[simp] theorem W_tor {m k : TM} : W (tOr1 m k ρ G) QT = W (m ρ G) fun b G1 => if b = true then QT true G1 else W (k ρ G1) QT := by
  unfold tOr1
  rw [W_bind]
  congr 1
  funext b G1
  cases b <;> rfl
@[simp] theorem W_not {m : EM} : W (eNot m ρ G) Q = W (m ρ G) fun v G1 => ∃ b, v = .bl b ∧ Q (.bl (!b)) G1 := by
  unfold eNot
  rw [W_bind]
  congr 1
  funext v G1
  cases v <;> simp
@[simp] theorem W_and {m k : EM} : W (eAnd m k ρ G) Q = W (m ρ G) fun v G1 => ∃ b, v = .bl b ∧ if b = true then W (k ρ G1) Q else Q (.bl false) G1 := by
  unfold eAnd
  rw [W_bind]
  congr 1
  funext v G1
  cases v with
  | bl b => cases b <;> simp
  | _ => simp
@[simp] theorem W_or {m k : EM} : W (eOr m k ρ G) Q = W (m ρ G) fun v G1 => ∃ b, v = .bl b ∧ if b = true then Q (.bl true) G1 else W (k ρ G1) Q := by
  unfold eOr
  rw [W_bind]
  congr 1
  funext v G1
  cases v with
  | bl b => cases b <;> simp
  | _ => simp
@[simp] theorem W_if {t : TM} {a b : EM} : W (eIf t a b ρ G) Q = W (t ρ G) fun k G1 => if k = true then W (a ρ G1) Q else W (b ρ G1) Q := by
  unfold eIf
  rw [W_bind]
  congr 1
  funext k G1
  cases k <;> rfl
@[simp] theorem W_neg {m : EM} : W (eNeg m ρ G) Q = W (m ρ G) fun v G1 => ∃ i, v = .int i ∧ Q (.int (-i)) G1 := by
  unfold eNeg
  rw [W_bind]
  congr 1
  funext v G1
  cases v <;> simp
@[simp] theorem W_aNil : W (aNil ρ G) QA = QA [] G := rfl
@[simp] theorem W_aCons {m : EM} {k : AM} : W (aCons m k ρ G) QA = W (m ρ G) fun v G1 => W (k ρ G1) fun vs G2 => QA (v :: vs) G2 := by
  unfold aCons
  rw [W_bind]
  congr 1
  funext v G1
  rw [W_bind]
  rfl
theorem small_line {n : Nat} (h : n ≤ 1000000) : n ≤ sizeLine := Nat.le_trans h (by decide)
@[simp] theorem W_tup {k : AM} : W (eTup k ρ G) Q = W (k ρ G) fun vs G1 => vs.length ≤ sizeLine ∧ Q (.tup vs) G1 := by
  unfold eTup
  rw [W_bind]
  congr 1
  funext vs G1
  by_cases h : vs.length ≤ sizeLine <;> simp [h]
@[simp] theorem W_lst {k : AM} : W (eLst k ρ G) Q = W (k ρ G) fun vs G1 => vs.length ≤ sizeLine ∧ Q (.obj G1.length) (G1 ++ [.lst vs]) := by
  unfold eLst alloc
  rw [W_bind]
  congr 1
  funext vs G1
  by_cases h : vs.length ≤ sizeLine <;> simp [h]
@[simp] theorem W_dic0 : W (eDic0 ρ G) Q = Q (.obj G.length) (G ++ [.dic []]) := rfl
/-- a field's value -/
def getF (pl : List (Nat × Nat)) (v : Val) (G : Store) : Option Val := match v with
  | .obj i => (match G[i]? with
    | some (.ins c vs) => (pl.lookup c).bind fun p => vs[p]?
    | _ => none)
  | _ => none
@[simp] theorem W_fld {m : EM} {pl : List (Nat × Nat)} : W (eFld m pl ρ G) Q = W (m ρ G) fun v G1 => ∃ w, getF pl v G1 = some w ∧ Q w G1 := by
  unfold eFld getF
  rw [W_bind]
  congr 1
  funext v G1
  cases v with
  | obj i =>
    dsimp only
    cases G1[i]? with
    | none => simp
    | some o =>
      cases o with
      | ins c vs =>
        dsimp only
        cases (pl.lookup c).bind fun p => vs[p]? <;> simp
      | _ => simp
  | _ => simp
@[simp] theorem W_call {f : F1} {k : AM} : W (eCall f k ρ G) Q = W (k ρ G) fun vs G1 => W (f vs G1) Q := W_bind
@[simp] theorem W_callF {f : F1} {dv : List Val} {k : AM} : W (eCallF f dv k ρ G) Q = W (k ρ G) fun vs G1 => W (f (vs ++ dv) G1) Q := W_bind
/-- the class of an object -/
def clsOf (v : Val) (G : Store) : Option Nat := match v with
  | .obj i => (match G[i]? with
    | some (.ins c _) => some c
    | _ => none)
  | _ => none
@[simp] theorem W_meth {tb : List (Nat × F1)} {dv : List Val} {o : EM} {k : AM} : W (eMeth tb dv o k ρ G) Q = W (o ρ G) fun w G1 => ∃ f, ((clsOf w G1).bind fun c => tb.lookup c) = some f ∧ W (k ρ G1) fun vs G2 => W (f (w :: (vs ++ dv)) G2) Q := by
  unfold eMeth clsOf
  rw [W_bind]
  congr 1
  funext v G1
  cases v with
  | obj i =>
    dsimp only
    cases G1[i]? with
    | none => simp
    | some ob =>
      cases ob with
      | ins c vs =>
        dsimp only [Option.bind]
        cases tb.lookup c with
        | none => simp
        | some f => simp [W_bind]
      | _ => simp
  | _ => simp
@[simp] theorem W_make {c : Nat} {f : F1} {dv : List Val} {k : AM} : W (eMake c f dv k ρ G) Q = W (k ρ G) fun vs G1 => W (f (.obj G1.length :: (vs ++ dv)) (G1 ++ [.ins c []])) fun v G2 => v = .non ∧ Q (.obj G1.length) G2 := by
  unfold eMake
  rw [W_bind]
  congr 1
  funext vs G1
  rw [W_bind]
  congr 1
  funext v G2
  cases v <;> simp
@[simp] theorem WS_fld {c p : Nat} {o m : EM} : WS (sFld1 c p o m ρ G) N T B C = W (m ρ G) fun v G1 => W (o ρ G1) fun w G2 => ∃ G3, setFld c p w v G2 = some G3 ∧ N ρ G3 := by
  unfold sFld1
  rw [WS_toS]
  congr 1
  funext v G1
  rw [WS_toS]
  congr 1
  funext w G2
  cases setFld c p w v G2 <;> simp [WS]
@[simp] theorem WS_un {p : Pt} {m : EM} : WS (sUn p m ρ G) N T B C = W (m ρ G) fun v G1 => ∃ ρ', ptSet G1 p v ρ = some ρ' ∧ N ρ' G1 := by
  unfold sUn
  rw [WS_toS]
  congr 1
  funext v G1
  cases ptSet G1 p v ρ <;> simp [WS]
@[simp] theorem WS_aug {i : Nat} {m : EM} : WS (sAug i m ρ G) N T B C = ∃ v, ρ[i]? = some (some v) ∧ W (m ρ G) fun w G1 => ∃ z, addI v w = some z ∧ N (ρ.set i (some z)) G1 := by
  unfold sAug
  cases h : ρ[i]? with
  | none => simp [WS]
  | some o =>
    cases o with
    | none => simp [WS]
    | some v =>
      simp only [Option.some.injEq, exists_eq_left']
      rw [WS_toS]
      congr 1
      funext w G1
      cases addI v w <;> simp [WS]
@[simp] theorem W_isi {ty : String} {m : EM} : W (eIsi ty m ρ G) Q = W (m ρ G) fun v G1 => ∃ n, tyN G1 v = some n ∧ Q (.bl (isTy ty n)) G1 := by
  unfold eIsi
  rw [W_bind]
  congr 1
  funext v G1
  cases tyN G1 v <;> simp
@[simp] theorem W_sl {m : EM} {lo hi : OM} : W (eSl m lo hi ρ G) Q = W (m ρ G) fun v G1 => W (lo ρ G1) fun l G2 => W (hi ρ G2) fun u G3 => W (fSl v l u G3) Q := by
  unfold eSl
  rw [W_bind]
  congr 1
  funext v G1
  rw [W_bind]
  congr 1
  funext l G2
  rw [W_bind]
@[simp] theorem W_oNone {QO : Option Int → Store → Prop} : W (oNone ρ G) QO = QO none G := rfl
@[simp] theorem W_oSome {m : EM} {QO : Option Int → Store → Prop} : W (oSome m ρ G) QO = W (m ρ G) fun v G1 => ∃ i, v = .int i ∧ QO (some i) G1 := by
  unfold oSome
  rw [W_bind]
  congr 1
  funext v G1
  cases v <;> simp
/-- a list grows -/
def pushL (v w : Val) (G : Store) : Option Store := setLst v (fun l => if l.length < sizeLine then some (l ++ [w]) else none) G
def isLst (v : Val) (G : Store) : Bool := match v with
  | .obj i => (match G[i]? with
    | some (.lst _) => true
    | _ => false)
  | _ => false
@[simp] theorem W_app {o m : EM} : W (eApp o m ρ G) Q = W (o ρ G) fun v G1 => isLst v G1 = true ∧ W (m ρ G1) fun w G2 => ∃ G3, pushL v w G2 = some G3 ∧ Q .non G3 := by
  unfold eApp isLst pushL
  rw [W_bind]
  congr 1
  funext v G1
  cases v with
  | obj i =>
    dsimp only
    cases G1[i]? with
    | none => simp
    | some ob =>
      cases ob with
      | lst l =>
        simp only [true_and]
        rw [W_bind]
        congr 1
        funext w G2
        cases setLst (.obj i) (fun l => if l.length < sizeLine then some (l ++ [w]) else none) G2 <;> simp
      | _ => simp
  | _ => simp
/-- a def -/
theorem W_def {n np : Nat} {b : SM} {vs : List Val} : W (runDef n np b vs G) Q = (vs.length = np ∧ WS (b (vs.map some ++ List.replicate (n - np) none) G) (fun _ G1 => Q .non G1) Q (fun _ _ => False) (fun _ _ => False)) := by
  unfold runDef
  by_cases h : vs.length = np
  · rw [if_pos h]
    cases b (vs.map some ++ List.replicate (n - np) none) G <;> simp [h, WS, W]
  · rw [if_neg h]
    simp [h]
end
/-! ### walks with an invariant -/
section
variable {ρ : Env1} {G : Store} {p : Pt} {b : SM} {N B C : Env1 → Store → Prop} {T : Val → Store → Prop}
theorem for_inv (I : List Val → Env1 → Store → Prop) (step : ∀ v r ρ G, I (v :: r) ρ G → ∃ ρ1, ptSet G p v ρ = some ρ1 ∧ WS (b ρ1 G) (I r) T N (I r)) (done : ∀ ρ G, I [] ρ G → N ρ G) : ∀ {l : List Val} {ρ : Env1} {G : Store}, I l ρ G → WS (forIt p b l ρ G) N T B C
  | [], ρ, G, h => done ρ G h
  | v :: r, ρ, G, h => by
    obtain ⟨ρ1, e, w⟩ := step v r ρ G h
    show WS (turn1 p b v (forIt p b r) ρ G) N T B C
    unfold turn1
    rw [e]
    dsimp only
    cases e2 : b ρ1 G with
    | next ρ' G' => rw [e2] at w; exact for_inv I step done w
    | cont ρ' G' => rw [e2] at w; exact for_inv I step done w
    | brk ρ' G' => rw [e2] at w; exact w
    | ret v G' => rw [e2] at w; exact w
    | exc c G' => rw [e2] at w; exact w
    | bad => rw [e2] at w; exact w
theorem WS_forR {rng : List Val → Option (List Val)} {m : AM} : WS (sForR rng m p b ρ G) N T B C = W (m ρ G) fun vs G1 => ∃ l, rng vs = some l ∧ WS (forIt p b l ρ G1) N T B C := by
  unfold sForR
  rw [WS_toS]
  congr 1
  funext vs G1
  cases rng vs <;> simp [WS]
end
end R1

/-! R2b: what operators and built-ins answer on known values; stores that grow; comprehensions whose parts change nothing. -/
namespace R1
open PySem

/-! ### growth -/
def Grow (G G' : Store) : Prop := ∃ J, G' = G ++ J
theorem Grow.refl {G : Store} : Grow G G := ⟨[], (List.append_nil G).symm⟩
theorem Grow.trans {G G1 G2 : Store} (a : Grow G G1) (b : Grow G1 G2) : Grow G G2 := by
  obtain ⟨J, rfl⟩ := a
  obtain ⟨J', rfl⟩ := b
  exact ⟨J ++ J', List.append_assoc ..⟩
theorem Grow.more {G G1 : Store} {J : Store} (a : Grow G G1) : Grow G (G1 ++ J) := a.trans ⟨J, rfl⟩
theorem grow1 {G J : Store} : Grow G (G ++ J) := ⟨J, rfl⟩
theorem Grow.get {G G' : Store} {i : Nat} {o : Ob} (g : Grow G G') (h : G[i]? = some o) : G'[i]? = some o := by
  obtain ⟨J, rfl⟩ := g
  rw [List.getElem?_append_left (List.getElem?_eq_some_iff.mp h).1]
  exact h
theorem Grow.le {G G' : Store} (g : Grow G G') : G.length ≤ G'.length := by
  obtain ⟨J, rfl⟩ := g
  simp
/-- a new object changed is still new -/
theorem Grow.set {G G' : Store} {i : Nat} {o : Ob} (g : Grow G G') (h : G.length ≤ i) : Grow G (G'.set i o) := by
  obtain ⟨J, rfl⟩ := g
  exact ⟨J.set (i - G.length) o, by rw [List.set_append_right _ _ h]⟩
@[simp] theorem get_new {G : Store} {o : Ob} : (G ++ [o])[G.length]? = some o := by simp
theorem get_old {G J : Store} {i : Nat} {o : Ob} (h : G[i]? = some o) : (G ++ J)[i]? = some o := Grow.get grow1 h
theorem getF_o {G : Store} {i c : Nat} {vs : List Val} {pl : List (Nat × Nat)} (h : G[i]? = some (.ins c vs)) : getF pl (.obj i) G = (pl.lookup c).bind fun p => vs[p]? := by
  unfold getF
  simp [h]
theorem clsOf_o {G : Store} {i c : Nat} {vs : List Val} (h : G[i]? = some (.ins c vs)) : clsOf (.obj i) G = some c := by
  unfold clsOf
  simp [h]
theorem lt_of_get {G : Store} {i : Nat} {o : Ob} (h : G[i]? = some o) : i < G.length := (List.getElem?_eq_some_iff.mp h).1
/-! ### operators -/
section
variable {G : Store} {a b : Int} {i j : Nat} {l m : List Val}
@[simp] theorem fAdd_ii : fAdd (.int a) (.int b) G = .ok (.int (a + b)) G := rfl
@[simp] theorem fSub_ii : fSub (.int a) (.int b) G = .ok (.int (a - b)) G := rfl
@[simp] theorem fLt_ii : fLt (.int a) (.int b) G = .ok (.bl (decide (a < b))) G := rfl
@[simp] theorem fLe_ii : fLe (.int a) (.int b) G = .ok (.bl (decide (a ≤ b))) G := rfl
@[simp] theorem fGt_ii : fGt (.int a) (.int b) G = .ok (.bl (decide (b < a))) G := rfl
@[simp] theorem fGe_ii : fGe (.int a) (.int b) G = .ok (.bl (decide (b ≤ a))) G := rfl
theorem fMul_l (h : inRng a = true) : fMul (.int a) (.int b) G = .ok (.int (a * b)) G := by
  unfold fMul orF fMulI fI
  simp [h]
theorem fMul_r (h : inRng b = true) : fMul (.int a) (.int b) G = .ok (.int (a * b)) G := by
  unfold fMul orF fMulI fI
  simp [h]
theorem fDiv_ii (h : 0 < b) (h2 : b < 1073741824) : fDiv (.int a) (.int b) G = .ok (.int (a / b)) G := by
  unfold fDiv fI
  simp [h, h2]
theorem fMod_ii (h : 0 < b) : fMod (.int a) (.int b) G = .ok (.int (a % b)) G := by
  unfold fMod fI
  simp [h]
@[simp] theorem fEq_ii : fEq (.int a) (.int b) G = .ok (.bl (decide (a = b))) G := by
  unfold fEq toD
  simp only
  congr 2
@[simp] theorem fNe_ii : fNe (.int a) (.int b) G = .ok (.bl (!decide (a = b))) G := by
  unfold fNe toD
  simp only
  congr 2
theorem fCat_oo (h1 : G[i]? = some (.lst l)) (h2 : G[j]? = some (.lst m)) (h : l.length + m.length ≤ sizeLine) : fAdd (.obj i) (.obj j) G = .ok (.obj G.length) (G ++ [.lst (l ++ m)]) := by
  unfold fAdd orF fAddI fI fCat
  simp [h1, h2, h, alloc]
theorem itemsOf_o (h : G[i]? = some (.lst l)) : itemsOf G (.obj i) = some l := by
  unfold itemsOf
  simp [h]
theorem itemsL_o (h : G[i]? = some (.lst l)) : itemsL G (.obj i) = some l := by
  unfold itemsL
  simp [h]
theorem bLen_s {v : Val} (h : itemsOf G v = some l) : bLen [v] G = .ok (.int l.length) G := by
  unfold bLen
  simp [h]
theorem bLen_o (h : G[i]? = some (.lst l)) : bLen [.obj i] G = .ok (.int l.length) G := bLen_s (itemsOf_o h)
theorem bList_s {v : Val} (h : itemsOf G v = some l) : bList [v] G = .ok (.obj G.length) (G ++ [.lst l]) := by
  unfold bList alloc
  simp [h]
theorem bList_o (h : G[i]? = some (.lst l)) : bList [.obj i] G = .ok (.obj G.length) (G ++ [.lst l]) := bList_s (itemsOf_o h)
theorem asInts_map : ∀ ns : List Int, asInts (ns.map Val.int) = some ns
  | [] => rfl
  | n :: ns => by
    show (asInts (ns.map Val.int)).map (n :: ·) = some (n :: ns)
    rw [asInts_map ns]
    rfl
theorem bSortL_o {ns : List Int} (h : G[i]? = some (.lst (ns.map Val.int))) : bSortL [.obj i] G = .ok (.obj G.length) (G ++ [.lst ((sortI ns).map Val.int)]) := by
  unfold bSortL alloc
  simp [itemsL_o h, asInts_map]
@[simp] theorem bInt_i : bInt [.int a] G = .ok (.int a) G := rfl
@[simp] theorem bAbs_i : bAbs [.int a] G = .ok (.int (if a < 0 then -a else a)) G := rfl
@[simp] theorem bMax_ii : bMax [.int a, .int b] G = .ok (.int (if b > a then b else a)) G := rfl
@[simp] theorem bMin_ii : bMin [.int a, .int b] G = .ok (.int (if b < a then b else a)) G := rfl
theorem fSl_o {lo hi : Option Int} (h : G[i]? = some (.lst l)) : fSl (.obj i) lo hi G = .ok (.obj G.length) (G ++ [.lst (cutL l lo hi)]) := by
  unfold fSl alloc
  simp [itemsOf_o h]
theorem fIxS_n {v : Val} {k : Nat} {w : Val} (h : itemsOf G v = some l) (e : l[k]? = some w) : fIxS v (.int k) G = .ok w G := by
  unfold fIxS
  have hk : k < l.length := (List.getElem?_eq_some_iff.mp e).1
  have e2 : atL l (k : Int) = some w := by
    unfold atL L2.atI
    have e3 : L2.ixN l.length (k : Int) = some k := by
      unfold L2.ixN
      simp
      omega
    rw [e3]
    exact e
  simp [h, e2]
theorem fNe_notin : True := trivial
/-! equality of lists of ints -/
theorem toD_ints (k : Nat) : ∀ ns : List Int, optAll (toD G k) (ns.map Val.int) = some (ns.map PyData.int)
  | [] => rfl
  | n :: ns => by
    have e : toD G k (Val.int n) = some (.int n) := by cases k <;> rfl
    rw [List.map_cons]
    unfold optAll
    rw [e, toD_ints k ns]
    rfl
theorem eqv_ints : ∀ (a b : List Int), PyData.eqv (.list (a.map PyData.int)) (.list (b.map PyData.int)) = decide (a = b)
  | [], [] => by simp [PyData.eqv, PyData.eqvAll]
  | [], b :: bs => by simp [PyData.eqv, PyData.eqvAll]
  | a :: as, [] => by simp [PyData.eqv, PyData.eqvAll]
  | a :: as, b :: bs => by
    have ih := eqv_ints as bs
    simp only [PyData.eqv] at ih
    by_cases h : a = b
    · subst h
      simp [PyData.eqv, PyData.eqvAll, ih]
    · simp [PyData.eqv, PyData.eqvAll, h]
theorem toD_lst {ns : List Int} (h : G[i]? = some (.lst (ns.map Val.int))) : toD G dEq (.obj i) = some (.list (ns.map PyData.int)) := by
  show (match G[i]? with | some (.lst l) => (optAll (toD G 39) l).map PyData.list | _ => none) = _
  rw [h]
  show (optAll (toD G 39) (ns.map Val.int)).map PyData.list = _
  rw [toD_ints]
  rfl
theorem fEq_ll {ns ms : List Int} (h1 : G[i]? = some (.lst (ns.map Val.int))) (h2 : G[j]? = some (.lst (ms.map Val.int))) : fEq (.obj i) (.obj j) G = .ok (.bl (decide (ns = ms))) G := by
  unfold fEq
  rw [toD_lst h1, toD_lst h2]
  simp only [eqv_ints]
theorem fNe_ll {ns ms : List Int} (h1 : G[i]? = some (.lst (ns.map Val.int))) (h2 : G[j]? = some (.lst (ms.map Val.int))) : fNe (.obj i) (.obj j) G = .ok (.bl (!decide (ns = ms))) G := by
  unfold fNe
  rw [toD_lst h1, toD_lst h2]
  simp only [eqv_ints]
theorem any_ints (d : Int) : ∀ ns : List Int, ((ns.map PyData.int).any fun y => PyData.eqv y (.int d)) = decide (d ∈ ns)
  | [] => by simp
  | n :: ns => by
    rw [List.map_cons, List.any_cons, any_ints d ns]
    by_cases h : n = d
    · subst h
      simp [PyData.eqv]
    · have h' : ¬ d = n := fun e => h e.symm
      simp [PyData.eqv, h, h']
theorem fIn_il {ns : List Int} {neg : Bool} (h : G[i]? = some (.lst (ns.map Val.int))) : fIn neg (.int a) (.obj i) G = .ok (.bl (neg != decide (a ∈ ns))) G := by
  unfold fIn
  rw [itemsOf_o h]
  have e : toD G dEq (Val.int a) = some (.int a) := rfl
  rw [e]
  show (match some (PyData.int a), optAll (toD G dEq) (ns.map Val.int) with | some d, some es => Res.ok (Val.bl (neg != (es.any fun y => PyData.eqv y d))) G | _, _ => .bad) = _
  rw [toD_ints]
  simp only [any_ints]
/-! a chain of comparisons -/
theorem W_chain {f g : F2} {x y z : EM} {ρ : Env1} {Q : Val → Store → Prop} : W (eChain f g x y z ρ G) Q = W (x ρ G) fun v G1 => W (y ρ G1) fun u G2 => W (f v u G2) fun k G3 => ∃ b, k = .bl b ∧ if b = true then W (z ρ G3) fun w G4 => W (g u w G4) Q else Q (.bl false) G3 := by
  unfold eChain
  rw [W_bind]
  congr 1
  funext v G1
  rw [W_bind]
  congr 1
  funext u G2
  rw [W_bind]
  congr 1
  funext k G3
  cases k with
  | bl b =>
    cases b with
    | true => simp [W_bind]
    | false => simp
  | _ => simp
end
/-! ### slices, growth of a list -/
theorem cut_take (l : List Val) (n : Nat) : cutL l none (some (n : Int)) = l.take n := by
  unfold cutL HT.sIx
  have h1 : ¬ ((n : Int) < 0) := by omega
  simp only [if_neg h1, Int.toNat_natCast, List.drop_zero, Nat.sub_zero]
  by_cases h : n ≤ l.length
  · rw [Nat.min_eq_left h]
  · rw [Nat.min_eq_right (by omega), List.take_length, List.take_of_length_le (by omega)]
theorem cut_drop (l : List Val) (n : Nat) : cutL l (some (n : Int)) none = l.drop n := by
  unfold cutL HT.sIx
  have h1 : ¬ ((n : Int) < 0) := by omega
  simp only [if_neg h1, Int.toNat_natCast]
  by_cases h : n ≤ l.length
  · rw [Nat.min_eq_left h, List.take_of_length_le (by simp)]
  · rw [Nat.min_eq_right (by omega), List.drop_of_length_le (Nat.le_refl _), List.drop_of_length_le (by omega)]
    simp
theorem pushL_o {G : Store} {i : Nat} {l : List Val} {w : Val} (h : G[i]? = some (.lst l)) (hl : l.length < sizeLine) : pushL (.obj i) w G = some (G.set i (.lst (l ++ [w]))) := by
  unfold pushL setLst
  simp [h, hl]
theorem truth_lst {G : Store} {i : Nat} {l : List Val} (h : G[i]? = some (.lst l)) : truth G (.obj i) = some (!l.isEmpty) := by
  unfold truth
  simp [h]
theorem tyN_lst {G : Store} {i : Nat} {l : List Val} (h : G[i]? = some (.lst l)) : tyN G (.obj i) = some "list" := by
  unfold tyN
  simp [h]
theorem isLst_o {G : Store} {i : Nat} {l : List Val} (h : G[i]? = some (.lst l)) : isLst (.obj i) G = true := by
  unfold isLst
  simp [h]
theorem setFld_old {G : Store} {i c p : Nat} {vs : List Val} {v : Val} (h : G[i]? = some (.ins c vs)) (hp : p < vs.length) : setFld c p (.obj i) v G = some (G.set i (.ins c (vs.set p v))) := by
  unfold setFld
  simp [h, hp, Nat.le_of_lt hp]
theorem setFld_new {G : Store} {i c : Nat} {vs : List Val} {v : Val} (h : G[i]? = some (.ins c vs)) : setFld c vs.length (.obj i) v G = some (G.set i (.ins c (vs ++ [v]))) := by
  unfold setFld
  simp [h]
/-- the object i is changed, all else stays -/
structure But (i : Nat) (G G' : Store) : Prop where
  le : G.length ≤ G'.length
  keep : ∀ j o, j ≠ i → G[j]? = some o → G'[j]? = some o
theorem But.of {i : Nat} {G G1 : Store} {o : Ob} (g : Grow G G1) : But i G (G1.set i o) := ⟨by rw [List.length_set]; exact g.le, fun j o h e => by rw [List.getElem?_set_ne (Ne.symm h)]; exact g.get e⟩
theorem But.grow {i : Nat} {G G' : Store} (g : Grow G G') : But i G G' := ⟨g.le, fun j o _ e => g.get e⟩
theorem But.trans {i : Nat} {G G1 G2 : Store} (a : But i G G1) (b : But i G1 G2) : But i G G2 := ⟨Nat.le_trans a.le b.le, fun j o h e => b.keep j o h (a.keep j o h e)⟩
/-! ### comprehensions whose test and item change nothing -/
section
variable {p : Pt} {tt : TM} {te : EM} {own : List Nat} {m : EM} {ρ : Env1} {G G1 : Store} {Q : Val → Store → Prop}
/-- what a turn asks -/
def Pure1 (p : Pt) (tt : TM) (te : EM) (ρw : Env1) (G1 : Store) (f : Val → Bool) (g : Val → Val) (v : Val) : Prop := ∀ acc, ∃ ρ2, ptSet (G1 ++ [Ob.lst acc]) p v ρw = some ρ2 ∧ W (tt ρ2 (G1 ++ [Ob.lst acc])) (fun b G2 => b = f v ∧ G2 = G1 ++ [Ob.lst acc]) ∧
  (f v = true → W (te ρ2 (G1 ++ [Ob.lst acc])) (fun w G2 => w = g v ∧ G2 = G1 ++ [Ob.lst acc]))
theorem set_last {o o' : Ob} : (G1 ++ [o]).set G1.length o' = G1 ++ [o'] := by
  rw [List.set_append_right _ _ (Nat.le_refl _), Nat.sub_self]
  rfl
theorem turn_pure {ρw : Env1} {f : Val → Bool} {g : Val → Val} {v : Val} {acc : List Val} {k : Store → Res Unit} (h : Pure1 p tt te ρw G1 f g v) (hl : acc.length < sizeLine) :
    lcTurn p tt te ρw G1.length v k (G1 ++ [Ob.lst acc]) = k (G1 ++ [Ob.lst (if f v = true then acc ++ [g v] else acc)]) := by
  obtain ⟨ρ2, e, w1, w2⟩ := h acc
  obtain ⟨b, G2, e1, rfl, rfl⟩ := W_ex w1
  unfold lcTurn
  rw [e]
  dsimp only
  rw [e1]
  show (if f v = true then _ else _) = _
  by_cases hf : f v = true
  · obtain ⟨w, G3, e2, rfl, rfl⟩ := W_ex (w2 hf)
    rw [if_pos hf, if_pos hf, e2]
    show (match push1 G1.length (g v) (G1 ++ [Ob.lst acc]) with | some G3 => k G3 | none => Res.bad) = _
    unfold push1
    rw [get_new]
    dsimp only
    rw [if_pos hl, set_last]
  · rw [if_neg hf, if_neg hf]
theorem it_pure {ρw : Env1} {f : Val → Bool} {g : Val → Val} : ∀ {l acc : List Val}, (∀ v ∈ l, Pure1 p tt te ρw G1 f g v) → acc.length + l.length ≤ sizeLine → lcIt p tt te ρw G1.length l (G1 ++ [Ob.lst acc]) = .ok () (G1 ++ [Ob.lst (acc ++ (l.filter f).map g)])
  | [], acc, _, _ => by simp [lcIt]
  | v :: l, acc, h, hl => by
    simp only [List.length_cons] at hl
    show lcTurn p tt te ρw G1.length v (lcIt p tt te ρw G1.length l) (G1 ++ [Ob.lst acc]) = _
    rw [turn_pure (h v (List.mem_cons_self ..)) (by omega), it_pure (fun w hw => h w (List.mem_cons_of_mem _ hw)) (by split <;> (try simp only [List.length_append, List.length_singleton]) <;> omega)]
    by_cases hf : f v = true
    · simp [hf]
    · simp [hf]
theorem ob_pure {ρw : Env1} {f : Val → Bool} {g : Val → Val} {i : Nat} {l : List Val} (hi : G1[i]? = some (.lst l)) : ∀ {r : List Val} {k : Nat} {acc : List Val}, l.drop k = r → (∀ v ∈ r, Pure1 p tt te ρw G1 f g v) → acc.length + r.length ≤ sizeLine → lcOb p tt te ρw G1.length i r k (G1 ++ [Ob.lst acc]) = .ok () (G1 ++ [Ob.lst (acc ++ (r.filter f).map g)])
  | [], k, acc, e, _, _ => by
    unfold lcOb
    rw [get_old hi]
    dsimp only
    have : l.length ≤ k := by
      have := congrArg List.length e
      simp at this
      omega
    rw [if_pos this]
    simp
  | v :: r, k, acc, e, h, hl => by
    have e1 : l[k]? = some v := by
      have := congrArg List.head? e
      simpa [List.head?_drop] using this
    have e2 : l.drop (k + 1) = r := by
      have := congrArg List.tail e
      simpa [List.tail_drop] using this
    simp only [List.length_cons] at hl
    unfold lcOb
    rw [get_old hi]
    dsimp only
    rw [e1]
    dsimp only
    rw [turn_pure (h v (List.mem_cons_self ..)) (by omega), ob_pure hi e2 (fun w hw => h w (List.mem_cons_of_mem _ hw)) (by split <;> (try simp only [List.length_append, List.length_singleton]) <;> omega)]
    by_cases hf : f v = true
    · simp [hf]
    · simp [hf]
theorem W_lcA {f : Val → Bool} {g : Val → Val} (h : W (m ρ G) fun v G1 => ∃ l, itemsOf G1 v = some l ∧ l.length ≤ sizeLine ∧ (∀ v ∈ l, Pure1 p tt te (wipe1 ρ own) G1 f g v) ∧ Q (.obj G1.length) (G1 ++ [.lst ((l.filter f).map g)])) : W (eLcA m p tt te own ρ G) Q := by
  unfold eLcA
  rw [W_bind]
  refine W_mono h fun v G1 ⟨l, e, hl, hp, q⟩ => ?_
  cases v with
  | tup l' =>
    cases e
    dsimp only
    rw [it_pure (acc := []) hp (by simpa using hl)]
    exact q
  | fro l' =>
    cases e
    dsimp only
    rw [it_pure (acc := []) hp (by simpa using hl)]
    exact q
  | obj i =>
    dsimp only
    cases e0 : G1[i]? with
    | none => simp [itemsOf, e0] at e
    | some o =>
      cases o with
      | lst l' =>
        simp [itemsOf, e0] at e
        subst e
        dsimp only
        rw [ob_pure (acc := []) e0 (List.drop_zero) hp (by simpa using hl)]
        exact q
      | _ => simp [itemsOf, e0] at e
  | _ => cases e
theorem W_lcR {rng : List Val → Option (List Val)} {k : AM} {f : Val → Bool} {g : Val → Val} (h : W (k ρ G) fun vs G1 => ∃ l, rng vs = some l ∧ l.length ≤ sizeLine ∧ (∀ v ∈ l, Pure1 p tt te (wipe1 ρ own) G1 f g v) ∧ Q (.obj G1.length) (G1 ++ [.lst ((l.filter f).map g)])) : W (eLcR rng k p tt te own ρ G) Q := by
  unfold eLcR
  rw [W_bind]
  refine W_mono h fun vs G1 ⟨l, e, hl, hp, q⟩ => ?_
  rw [e]
  dsimp only
  rw [it_pure (acc := []) hp (by simpa using hl)]
  exact q
end
end R1

/-! R2c: allocating steps, the new store left open. -/
namespace R1
open PySem
/-- a list of ints -/
def IL (G : Store) (i : Nat) (ns : List Int) : Prop := G[i]? = some (.lst (ns.map Val.int))
/-- any list -/
def LL (G : Store) (i : Nat) (l : List Val) : Prop := G[i]? = some (.lst l)
theorem small_ok {n : Nat} (h : n ≤ 1000000) : n ≤ sizeLine := Nat.le_trans h (by decide)
theorem small_lt {n : Nat} (h : n ≤ 1000000) : n < sizeLine := Nat.lt_of_le_of_lt h (by decide)
section
variable {G : Store} {i j : Nat} {ns ms : List Int} {l m : List Val} {Q : Val → Store → Prop}
theorem IL.grow {G' : Store} (h : IL G i ns) (g : Grow G G') : IL G' i ns := g.get h
theorem LL.grow {G' : Store} (h : LL G i l) (g : Grow G G') : LL G' i l := g.get h
theorem IL.ll (h : IL G i ns) : LL G i (ns.map Val.int) := h
theorem IL.lt (h : IL G i ns) : i < G.length := lt_of_get h
theorem w_sortL (h : IL G i ns) (q : ∀ G' k, Grow G G' → G.length ≤ k → IL G' k (sortI ns) → Q (.obj k) G') : W (bSortL [.obj i] G) Q := by
  rw [bSortL_o h]
  exact q _ _ grow1 (Nat.le_refl _) get_new
theorem w_list (h : LL G i l) (q : ∀ G' k, Grow G G' → G.length ≤ k → LL G' k l → Q (.obj k) G') : W (bList [.obj i] G) Q := by
  rw [bList_o h]
  exact q _ _ grow1 (Nat.le_refl _) get_new
theorem w_listI (h : IL G i ns) (q : ∀ G' k, Grow G G' → G.length ≤ k → IL G' k ns → Q (.obj k) G') : W (bList [.obj i] G) Q := w_list h q
theorem w_cat (h1 : LL G i l) (h2 : LL G j m) (hl : l.length + m.length ≤ 1000000) (q : ∀ G' k, Grow G G' → G.length ≤ k → LL G' k (l ++ m) → Q (.obj k) G') : W (fAdd (.obj i) (.obj j) G) Q := by
  rw [fCat_oo h1 h2 (small_ok hl)]
  exact q _ _ grow1 (Nat.le_refl _) get_new
theorem w_catI (h1 : IL G i ns) (h2 : IL G j ms) (hl : ns.length + ms.length ≤ 1000000) (q : ∀ G' k, Grow G G' → G.length ≤ k → IL G' k (ns ++ ms) → Q (.obj k) G') : W (fAdd (.obj i) (.obj j) G) Q :=
  w_cat h1 h2 (by simpa using hl) fun G' k g hk h => q G' k g hk (by unfold IL; rw [List.map_append]; exact h)
theorem w_takeI {n : Nat} (h : IL G i ns) (q : ∀ G' k, Grow G G' → G.length ≤ k → IL G' k (ns.take n) → Q (.obj k) G') : W (fSl (.obj i) none (some (n : Int)) G) Q := by
  rw [fSl_o h, cut_take]
  exact q _ _ grow1 (Nat.le_refl _) (by unfold IL; rw [List.map_take]; exact get_new)
theorem w_dropI {n : Nat} (h : IL G i ns) (q : ∀ G' k, Grow G G' → G.length ≤ k → IL G' k (ns.drop n) → Q (.obj k) G') : W (fSl (.obj i) (some (n : Int)) none G) Q := by
  rw [fSl_o h, cut_drop]
  exact q _ _ grow1 (Nat.le_refl _) (by unfold IL; rw [List.map_drop]; exact get_new)
/-- a new list -/
theorem w_new {P : Store → Prop} (l : List Val) (q : ∀ G' k, Grow G G' → G.length ≤ k → LL G' k l → Q (.obj k) G') : Q (.obj G.length) (G ++ [.lst l]) := q _ _ grow1 (Nat.le_refl _) get_new
/-- a list grows that is new to G0 -/
theorem w_push {G0 : Store} {v : Val} {R : Store → Prop} (h : LL G i l) (hl : l.length ≤ 1000000) (g : Grow G0 G) (hi : G0.length ≤ i) (q : ∀ G', Grow G0 G' → LL G' i (l ++ [v]) → But i G G' → R G') : ∃ G3, pushL (.obj i) v G = some G3 ∧ R G3 := by
  refine ⟨_, pushL_o h (small_lt hl), q _ (g.set hi) (List.getElem?_set_self (lt_of_get h)) (But.of .refl)⟩
end

/-! ### a walk over a range -/
theorem rangeL_len (lo : Int) (m : Nat) : (rangeL lo m).length = m := by simp [rangeL]
theorem for_rng {p : Pt} {b : SM} {N B C : Env1 → Store → Prop} {T : Val → Store → Prop} {lo : Int} {m : Nat} (I : Nat → Env1 → Store → Prop) (step : ∀ n, n < m → ∀ ρ G, I n ρ G → ∃ ρ1, ptSet G p (.int (lo + n)) ρ = some ρ1 ∧ WS (b ρ1 G) (I (n + 1)) T N (I (n + 1))) (done : ∀ ρ G, I m ρ G → N ρ G) {ρ : Env1} {G : Store} (h : I 0 ρ G) : WS (forIt p b (rangeL lo m) ρ G) N T B C := by
  refine for_inv (fun r ρ G => ∃ n, n ≤ m ∧ r = (rangeL lo m).drop n ∧ I n ρ G) (fun v r ρ G ⟨n, hn, e, hI⟩ => ?_) (fun ρ G ⟨n, hn, e, hI⟩ => ?_) ⟨0, Nat.zero_le _, rfl, h⟩
  · have hlt : n < m := by
      have := congrArg List.length e
      simp [rangeL_len] at this
      omega
    have hlt' : n < (rangeL lo m).length := by rw [rangeL_len]; exact hlt
    have e2 := List.drop_eq_getElem_cons hlt'
    rw [← e] at e2
    have ev : v = .int (lo + n) := by
      have := (List.cons.inj e2).1
      rw [this]
      simp [rangeL]
    have er : r = (rangeL lo m).drop (n + 1) := (List.cons.inj e2).2
    obtain ⟨ρ1, e1, w⟩ := step n hlt ρ G hI
    rw [ev]
    exact ⟨ρ1, e1, WS_mono w (fun ρ G h => ⟨n + 1, hlt, er, h⟩) (fun _ _ h => h) (fun _ _ h => h) (fun ρ G h => ⟨n + 1, hlt, er, h⟩)⟩
  · have : n = m := by
      have := congrArg List.length e
      simp [rangeL_len] at this
      omega
    subst this
    exact done ρ G hI
/-! ### lists of ints, sorted -/
theorem sortI_perm (l : List Int) : (sortI l).Perm l := List.mergeSort_perm l _
theorem sortI_sorted (l : List Int) : (sortI l).Pairwise (· ≤ ·) := by
  have h := List.pairwise_mergeSort (le := fun a b : Int => decide (a ≤ b)) (fun a b c h1 h2 => by simp at *; omega) (fun a b => by simp; omega) l
  exact h.imp fun h => of_decide_eq_true h
theorem sortI_congr {l m : List Int} (h : l.Perm m) : sortI l = sortI m := sortI_uniq ((sortI_perm l).trans h) (sortI_sorted l)
theorem sortI_len (l : List Int) : (sortI l).length = l.length := (sortI_perm l).length_eq
theorem sortI_idem (l : List Int) : sortI (sortI l) = sortI l := sortI_congr (sortI_perm l)
theorem sortI_of {l : List Int} (h : l.Pairwise (· ≤ ·)) : sortI l = l := (sortI_uniq (List.Perm.refl l) h).symm
theorem count_part (f : Int → Int) (cells : List Int) (th a : Int) : List.count a (sortI (cells.filter fun c => decide (f c = th))) = if f a = th then List.count a cells else 0 := by
  rw [(sortI_perm _).count_eq]
  by_cases h : f a = th
  · rw [if_pos h, List.count_filter (by simpa using h)]
  · rw [if_neg h, List.count_eq_zero]
    intro m
    have := (List.mem_filter.mp m).2
    simp at this
    exact h this
/-- the parts of a division -/
def parts (f : Int → Int) (cells : List Int) : Nat → List Int
  | 0 => []
  | n + 1 => parts f cells n ++ sortI (cells.filter fun c => decide (f c = n))
theorem count_parts (f : Int → Int) (cells : List Int) (a : Int) (h0 : 0 ≤ f a) : ∀ n : Nat, List.count a (parts f cells n) = if f a < n then List.count a cells else 0
  | 0 => by
    rw [if_neg (by omega)]
    rfl
  | n + 1 => by
    rw [parts, List.count_append, count_parts f cells a h0 n, count_part]
    by_cases h1 : f a < n
    · rw [if_pos h1, if_neg (by omega), if_pos (by omega)]
      rfl
    · by_cases h2 : f a = n
      · rw [if_neg h1, if_pos h2, if_pos (by omega)]
        omega
      · rw [if_neg h1, if_neg h2, if_neg (by omega)]
theorem parts_perm (f : Int → Int) (cells : List Int) (n : Nat) (h : ∀ a, 0 ≤ f a ∧ f a < n) : (parts f cells n).Perm cells := by
  rw [List.perm_iff_count]
  intro a
  rw [count_parts f cells a (h a).1 n, if_pos (h a).2]
theorem part_len (f : Int → Bool) (cells : List Int) : (sortI (cells.filter f)).length ≤ cells.length := by
  rw [sortI_len]
  exact List.length_filter_le _ _
theorem parts_len (f : Int → Int) (cells : List Int) : ∀ n : Nat, (parts f cells n).length ≤ n * cells.length
  | 0 => by simp [parts]
  | n + 1 => by
    have h1 := parts_len f cells n
    have h2 := part_len (fun c => decide (f c = n)) cells
    rw [parts, List.length_append, Nat.succ_mul]
    omega
theorem Grow.ofAll {G G' : Store} (h : ∀ (j : Nat) (o : Ob), G[j]? = some o → G'[j]? = some o) : Grow G G' := by
  refine ⟨G'.drop G.length, List.ext_getElem? fun j => ?_⟩
  by_cases hj : j < G.length
  · rw [List.getElem?_append_left hj, List.getElem?_eq_getElem hj]
    exact h j _ (List.getElem?_eq_getElem hj)
  · rw [List.getElem?_append_right (by omega), List.getElem?_drop]
    congr 1
    omega
theorem But.grow0 {i : Nat} {G0 G G' : Store} (b : But i G G') (g : Grow G0 G) (hi : G0.length ≤ i) : Grow G0 G' := Grow.ofAll fun j o e => b.keep j o (by have := lt_of_get e; omega) (g.get e)
theorem But.il {i j : Nat} {G G' : Store} {ns : List Int} (b : But i G G') (hj : j ≠ i) (h : IL G j ns) : IL G' j ns := b.keep j _ hj h
theorem w_push0 {G : Store} {i : Nat} {l : List Val} {v : Val} {R : Store → Prop} (h : LL G i l) (hl : l.length ≤ 1000000) (q : ∀ G', LL G' i (l ++ [v]) → But i G G' → R G') : ∃ G3, pushL (.obj i) v G = some G3 ∧ R G3 :=
  ⟨_, pushL_o h (small_lt hl), q _ (List.getElem?_set_self (lt_of_get h)) (But.of .refl)⟩
@[simp] theorem fIsNot_n {v : Val} {G : Store} : fIsNot v .non G = .ok (.bl (!isNon v)) G := rfl
@[simp] theorem fIs_n {v : Val} {G : Store} : fIs v .non G = .ok (.bl (isNon v)) G := rfl
theorem filter_intsV (f : Int → Bool) : ∀ ns : List Int, (ns.map Val.int).filter (fun v => match v with | .int i => f i | _ => false) = (ns.filter f).map Val.int
  | [] => rfl
  | n :: ns => by
    have ih := filter_intsV f ns
    by_cases h : f n = true <;> simp [h, ih]
/-- [x for x in xs if f x] over ints -/
theorem w_filterI {p : Pt} {tt : TM} {te : EM} {own : List Nat} {m : EM} {ρ : Env1} {G G1 : Store} {i : Nat} {ns : List Int} {Q : Val → Store → Prop} (f : Int → Bool) (hm : m ρ G = .ok (.obj i) G1) (h : IL G1 i ns) (hl : ns.length ≤ 1000000)
    (hp : ∀ n ∈ ns, ∀ G2, Grow G1 G2 → ∃ ρ2, ptSet G2 p (.int n) (wipe1 ρ own) = some ρ2 ∧ W (tt ρ2 G2) (fun b G3 => b = f n ∧ G3 = G2) ∧ (f n = true → W (te ρ2 G2) fun w G3 => w = .int n ∧ G3 = G2))
    (q : ∀ G' k, Grow G1 G' → G1.length ≤ k → IL G' k (ns.filter f) → Q (.obj k) G') : W (eLcA m p tt te own ρ G) Q := by
  refine W_lcA (f := fun v => match v with | .int i => f i | _ => false) (g := id) ?_
  rw [hm]
  refine ⟨_, itemsOf_o h, by simpa using small_ok hl, fun v hv acc => ?_, ?_⟩
  · obtain ⟨n, hn, rfl⟩ := List.mem_map.mp hv
    obtain ⟨ρ2, e, w1, w2⟩ := hp n hn _ grow1
    exact ⟨ρ2, e, w1, w2⟩
  · refine q _ _ grow1 (Nat.le_refl _) ?_
    unfold IL
    rw [get_new, filter_intsV]
    simp
/-- from every store, then from the empty one -/
theorem fin_of {m : F1} {vs : List Val} (h : ∀ G, W (m vs G) fun v _ => v = .bl true) : ∃ G, m vs [] = .ok (.bl true) G := by
  obtain ⟨v, G, e, hv⟩ := W_ex (h [])
  exact ⟨G, by rw [e, hv]⟩
end R1

namespace Dk
open PySem R1
def b_Store_free_cells : SM := (sRet (eCall bList (aCons (eFld (eVar 0) [(5, 2)]) aNil)))
def m_Store_free_cells : F1 := runDef 1 1 b_Store_free_cells
def b_Store_waiting : SM := (sSeq (sSet 1 (eLcA (eFld (eVar 0) [(5, 4)]) (.tup [2, 3]) tTrue (eTup (aCons (eVar 2) (aCons (eCall bList (aCons (eVar 3) aNil)) aNil))) [2, 3])) (sSeq (sIf (eTruth (eFld (eVar 0) [(5, 3)])) (sEx (eApp (eVar 1) (eTup (aCons (eC .non) (aCons (eCall bList (aCons (eFld (eVar 0) [(5, 3)]) aNil)) aNil))))) sPass) (sRet (eVar 1))))
def m_Store_waiting : F1 := runDef 4 1 b_Store_waiting
def b__law_same : SM := (sSeq (sSet 3 (eMeth [(5, m_Store_free_cells)] [] (eVar 0) aNil)) (sSeq (sIf (tOr1 (tNot1 (eTruth (eIsi "list" (eVar 3)))) (eTest (eOp fNe (eVar 3) (eCall bSortL (aCons (eVar 1) aNil))))) (sRet (eC (.bl false))) sPass) (sSeq (sEx (eApp (eVar 3) (eC (.int 3)))) (sSeq (sSet 4 (eLst aNil)) (sSeq (sIf (eTest (eOp fGt (eCall bLen (aCons (eVar 2) aNil)) (eC (.int 0)))) (sSet 4 (eLst (aCons (eTup (aCons (eC .non) (aCons (eCall bList (aCons (eVar 2) aNil)) aNil))) aNil))) sPass) (sRet (eAnd (eOp fEq (eMeth [(5, m_Store_waiting)] [] (eVar 0) aNil) (eVar 4)) (eOp fEq (eMeth [(5, m_Store_free_cells)] [] (eVar 0) aNil) (eCall bSortL (aCons (eVar 1) aNil))))))))))
def m__law_same : F1 := runDef 5 3 b__law_same
def b_Store_take : SM := (sSeq (sIf (eTest (eOp fGt (eVar 1) (eCall bLen (aCons (eFld (eVar 0) [(5, 2)]) aNil)))) (sRet (eC .non)) sPass) (sSeq (sSet 2 (eSl (eFld (eVar 0) [(5, 2)]) oNone (oSome (eVar 1)))) (sSeq (sFld1 5 2 (eVar 0) (eSl (eFld (eVar 0) [(5, 2)]) (oSome (eVar 1)) oNone)) (sRet (eVar 2)))))
def m_Store_take : F1 := runDef 3 2 b_Store_take
def b_Store_give_back : SM := (sFld1 5 2 (eVar 0) (eCall bSortL (aCons (eOp fAdd (eFld (eVar 0) [(5, 2)]) (eCall bList (aCons (eVar 1) aNil))) aNil)))
def m_Store_give_back : F1 := runDef 2 2 b_Store_give_back
def b_Store_take_out : SM := (sFld1 5 3 (eVar 0) (eOp fAdd (eFld (eVar 0) [(5, 3)]) (eCall bList (aCons (eVar 1) aNil))))
def m_Store_take_out : F1 := runDef 2 2 b_Store_take_out
def b__law_at : SM := (sSeq (sIf (eTest (eOp fLt (eVar 1) (eCall bLen (aCons (eVar 0) aNil)))) (sRet (eOp fIxS (eVar 0) (eVar 1))) sPass) (sRet (eC (.int 0))))
def m__law_at : F1 := runDef 2 2 b__law_at
def b_law_l1 : SM := (sSeq (sSet 13 (eCallF m__law_at [] (aCons (eVar 1) (aCons (eOp fAdd (eOp fMul (eC (.int 2)) (eVar 12)) (eC (.int 4))) aNil)))) (sSeq (sSet 14 (eCallF m__law_at [] (aCons (eVar 1) (aCons (eOp fAdd (eOp fMul (eC (.int 2)) (eVar 12)) (eC (.int 5))) aNil)))) (sSeq (sIf (eTest (eOp fEq (eOp fMod (eVar 13) (eC (.int 3))) (eC (.int 0)))) (sSeq (sSet 15 (eOp fMod (eVar 14) (eC (.int 10)))) (sSeq (sSet 16 (eMeth [(5, m_Store_take)] [] (eVar 9) (aCons (eVar 15) aNil))) (sIf (eTest (eOp fGt (eVar 15) (eCall bLen (aCons (eVar 7) aNil)))) (sIf (eTest (eOp fIsNot (eVar 16) (eC .non))) (sRet (eC (.bl false))) sPass) (sSeq (sSet 17 (eSl (eCall bSortL (aCons (eVar 7) aNil)) oNone (oSome (eVar 15)))) (sSeq (sIf (tOr1 (tNot1 (eTruth (eIsi "list" (eVar 16)))) (eTest (eOp fNe (eVar 16) (eVar 17)))) (sRet (eC (.bl false))) sPass) (sSeq (sSet 7 (eLcA (eVar 7) (.nm 20) (eTest (eOp (fIn true) (eVar 20) (eVar 17))) (eVar 20) [20])) (sSeq (sSet 10 (eOp fAdd (eVar 10) (eVar 17))) (sEx (eApp (eVar 16) (eC (.int 1))))))))))) (sIf (eTest (eOp fEq (eOp fMod (eVar 13) (eC (.int 3))) (eC (.int 1)))) (sSeq (sSet 18 (eSl (eVar 10) oNone (oSome (eOp fMod (eVar 14) (eOp fAdd (eCall bLen (aCons (eVar 10) aNil)) (eC (.int 1))))))) (sSeq (sSet 8 (eCall bList (aCons (eVar 18) aNil))) (sSeq (sEx (eMeth [(5, m_Store_give_back)] [] (eVar 9) (aCons (eVar 8) aNil))) (sSeq (sEx (eApp (eVar 8) (eC (.int 9)))) (sSeq (sSet 10 (eSl (eVar 10) (oSome (eCall bLen (aCons (eVar 18) aNil))) oNone)) (sSet 7 (eOp fAdd (eVar 7) (eVar 18)))))))) (sSeq (sSet 19 (eSl (eVar 10) oNone (oSome (eOp fMod (eVar 14) (eOp fAdd (eCall bLen (aCons (eVar 10) aNil)) (eC (.int 1))))))) (sSeq (sSet 8 (eCall bList (aCons (eVar 19) aNil))) (sSeq (sEx (eMeth [(5, m_Store_take_out)] [] (eVar 9) (aCons (eVar 8) aNil))) (sSeq (sEx (eApp (eVar 8) (eC (.int 9)))) (sSeq (sSet 10 (eSl (eVar 10) (oSome (eCall bLen (aCons (eVar 19) aNil))) oNone)) (sSet 11 (eOp fAdd (eVar 11) (eVar 19)))))))))) (sIf (tNot1 (eTruth (eCallF m__law_same [] (aCons (eVar 9) (aCons (eVar 7) (aCons (eVar 11) aNil)))))) (sRet (eC (.bl false))) sPass))))
def b_Store_init : SM := (sSeq (sFld1 5 0 (eVar 0) (eVar 1)) (sSeq (sFld1 5 1 (eVar 0) (eVar 2)) (sSeq (sFld1 5 2 (eVar 0) (eCall bSortL (aCons (eVar 3) aNil))) (sSeq (sFld1 5 3 (eVar 0) (eLst aNil)) (sFld1 5 4 (eVar 0) (eLst aNil))))))
def m_Store_init : F1 := runDef 4 4 b_Store_init
def b_Layout_record : SM := (sRet (eOp fAdd (eOp fAdd (eOp fAdd (eC (.int 1)) (eOp fMul (eC (.int 2)) (eFld (eVar 0) [(0, 0)]))) (eFld (eVar 0) [(0, 1)])) (eVar 1)))
def m_Layout_record : F1 := runDef 2 2 b_Layout_record
def b_divided : SM := (sRet (eCall bSortL (aCons (eLcA (eVar 1) (.nm 3) (eTest (eOp fEq (eOp fMod (eOp fSub (eVar 3) (eMeth [(0, m_Layout_record)] [] (eVar 0) (aCons (eC (.int 0)) aNil))) (eFld (eVar 0) [(0, 0)])) (eVar 2))) (eVar 3) [3]) aNil)))
def m_divided : F1 := runDef 4 3 b_divided
def b__law_divided_l1 : SM := (sSeq (sSet 5 (eCallF m_divided [] (aCons (eVar 0) (aCons (eCall bList (aCons (eVar 1) aNil)) (aCons (eVar 4) aNil))))) (sSeq (sSet 6 (eCall bSortL (aCons (eLcA (eVar 1) (.nm 7) (eTest (eOp fEq (eOp fMod (eOp fSub (eVar 7) (eMeth [(0, m_Layout_record)] [] (eVar 0) (aCons (eC (.int 0)) aNil))) (eVar 2)) (eVar 4))) (eVar 7) [7]) aNil))) (sSeq (sIf (eTest (eOp fNe (eVar 5) (eVar 6))) (sRet (eC (.bl false))) sPass) (sSet 3 (eOp fAdd (eVar 3) (eVar 5))))))
def b__law_divided : SM := (sSeq (sSet 3 (eLst aNil)) (sSeq (sForR rng1 (aCons (eVar 2) aNil) (.nm 4) b__law_divided_l1) (sRet (eOp fEq (eCall bSortL (aCons (eVar 3) aNil)) (eCall bSortL (aCons (eVar 1) aNil))))))
def m__law_divided : F1 := runDef 8 3 b__law_divided
def b_is_within : SM := (sRet (eAnd (eIsi "int" (eVar 0)) (eAnd (eNot (eIsi "bool" (eVar 0))) (eChain fLe fLe (eVar 1) (eVar 0) (eVar 2)))))
def m_is_within : F1 := runDef 3 3 b_is_within
def b_Layout_init : SM := (sSeq (sIf (tOr1 (tNot1 (eTruth (eCallF m_is_within [] (aCons (eVar 1) (aCons (eC (.int 1)) (aCons (eC (.int 3)) aNil)))))) (tNot1 (eTruth (eCallF m_is_within [] (aCons (eVar 2) (aCons (eC (.int 1)) (aCons (eC (.int 4)) aNil))))))) sNever sPass) (sSeq (sIf (tNot1 (eTruth (eCallF m_is_within [] (aCons (eVar 3) (aCons (eC (.int 4)) (aCons (eC (.int 200)) aNil)))))) sNever sPass) (sSeq (sFld1 0 0 (eVar 0) (eVar 1)) (sSeq (sFld1 0 1 (eVar 0) (eVar 2)) (sFld1 0 2 (eVar 0) (eVar 3))))))
def m_Layout_init : F1 := runDef 4 4 b_Layout_init
def b__law_tape_l1 : SM := (sIf (eTest (eOp fGt (eVar 3) (eC (.int 0)))) (sSeq (sEx (eApp (eVar 1) (eOp fMod (eVar 3) (eC (.int 1000))))) (sSet 3 (eOp fDiv (eVar 3) (eC (.int 1000))))) sPass)
def b__law_tape_l2 : SM := (sSeq (sSet 3 (eOp fMod (eOp fAdd (eOp fAdd (eOp fMul (eVar 3) (eC (.int 48271))) (eOp fMul (eC (.int 69621)) (eOp fAdd (eVar 2) (eC (.int 1))))) (eOp fMul (eC (.int 7)) (eVar 4))) (eC (.int 2147483647)))) (sSeq (sSet 3 (eOp fMod (eOp fMul (eVar 3) (eC (.int 16807))) (eC (.int 2147483647)))) (sEx (eApp (eVar 1) (eOp fMod (eOp fDiv (eVar 3) (eC (.int 1000))) (eC (.int 1000)))))))
def b__law_tape_l3 : SM := (sSeq (sSet 3 (eCall bAbs (aCons (eCall bInt (aCons (eOp fIxS (eVar 0) (eVar 2)) aNil)) aNil))) (sIf (eTest (eOp fGe (eVar 3) (eOp fPow (eC (.int 10)) (eC (.int 18))))) (sForR rng1 (aCons (eC (.int 60)) aNil) (.nm 4) b__law_tape_l1) (sForR rng1 (aCons (eC (.int 4)) aNil) (.nm 4) b__law_tape_l2)))
def b__law_tape : SM := (sSeq (sSet 1 (eLst aNil)) (sSeq (sForR rng1 (aCons (eCall bLen (aCons (eVar 0) aNil)) aNil) (.nm 2) b__law_tape_l3) (sRet (eVar 1))))
def m__law_tape : F1 := runDef 5 1 b__law_tape
def b_law : SM := (sSeq (sSet 1 (eCallF m__law_tape [] (aCons (eVar 0) aNil))) (sSeq (sSet 2 (eOp fAdd (eC (.int 1)) (eOp fMod (eCallF m__law_at [] (aCons (eVar 1) (aCons (eC (.int 0)) aNil))) (eC (.int 3))))) (sSeq (sSet 3 (eOp fAdd (eC (.int 1)) (eOp fMod (eCallF m__law_at [] (aCons (eVar 1) (aCons (eC (.int 1)) aNil))) (eC (.int 4))))) (sSeq (sSet 4 (eMake 0 m_Layout_init [] (aCons (eVar 2) (aCons (eVar 3) (aCons (eOp fAdd (eC (.int 4)) (eOp fMod (eCallF m__law_at [] (aCons (eVar 1) (aCons (eC (.int 2)) aNil))) (eC (.int 57)))) aNil))))) (sSeq (sSet 5 (eOp fMod (eCallF m__law_at [] (aCons (eVar 1) (aCons (eC (.int 3)) aNil))) (eVar 2))) (sSeq (sSet 6 (eLcR rng1 (aCons (eFld (eVar 4) [(0, 2)]) aNil) (.nm 12) (eTest (eOp fGt (eOp fMod (eOp fAdd (eOp fMul (eVar 12) (eC (.int 7))) (eCallF m__law_at [] (aCons (eVar 1) (aCons (eC (.int 3)) aNil)))) (eC (.int 5))) (eC (.int 0)))) (eMeth [(0, m_Layout_record)] [] (eVar 4) (aCons (eVar 12) aNil)) [12])) (sSeq (sIf (tNot1 (eTruth (eCallF m__law_divided [] (aCons (eVar 4) (aCons (eVar 6) (aCons (eVar 2) aNil)))))) (sRet (eC (.bl false))) sPass) (sSeq (sSet 7 (eCallF m_divided [] (aCons (eVar 4) (aCons (eLcR rng2 (aCons (eVar 3) (aCons (eFld (eVar 4) [(0, 2)]) aNil)) (.nm 12) tTrue (eMeth [(0, m_Layout_record)] [] (eVar 4) (aCons (eVar 12) aNil)) [12]) (aCons (eVar 5) aNil))))) (sSeq (sSet 8 (eCall bList (aCons (eVar 7) aNil))) (sSeq (sSet 9 (eMake 5 m_Store_init [] (aCons (eVar 4) (aCons (eVar 5) (aCons (eVar 8) aNil))))) (sSeq (sEx (eApp (eVar 8) (eC (.int 1)))) (sSeq (sSet 10 (eLst aNil)) (sSeq (sSet 11 (eLst aNil)) (sSeq (sIf (tOr1 (eTest (eOp fNe (eFld (eVar 9) [(5, 1)]) (eVar 5))) (tNot1 (eTruth (eCallF m__law_same [] (aCons (eVar 9) (aCons (eVar 7) (aCons (eVar 11) aNil))))))) (sRet (eC (.bl false))) sPass) (sSeq (sForR rng1 (aCons (eCall bMin (aCons (eC (.int 40)) (aCons (eCall bMax (aCons (eC (.int 0)) (aCons (eOp fDiv (eOp fSub (eCall bLen (aCons (eVar 1) aNil)) (eC (.int 4))) (eC (.int 2))) aNil))) aNil))) aNil) (.nm 12) b_law_l1) (sRet (eC (.bl true))))))))))))))))))
def m_law : F1 := runDef 21 1 b_law
end Dk

namespace Dk
open PySem R1
def Lay (G : Store) (i : Nat) (t w r : Int) : Prop := G[i]? = some (.ins 0 [.int t, .int w, .int r])
theorem Lay.grow {G G' : Store} {i : Nat} {t w r : Int} (h : Lay G i t w r) (g : Grow G G') : Lay G' i t w r := g.get h
structure Sto (G : Store) (i lay : Nat) (th : Int) (sp : List Int) (out : List Int) : Prop where
  ex : ∃ a b c, G[i]? = some (.ins 5 [.obj lay, .int th, .obj a, .obj b, .obj c]) ∧ IL G a sp ∧ IL G b out ∧ G[c]? = some (.lst [])
theorem Sto.grow {G G' : Store} {i lay : Nat} {th : Int} {sp out : List Int} (h : Sto G i lay th sp out) (g : Grow G G') : Sto G' i lay th sp out := by
  obtain ⟨a, b, c, h1, h2, h3, h4⟩ := h.ex
  exact ⟨a, b, c, g.get h1, g.get h2, g.get h3, g.get h4⟩
theorem ne_ins {G : Store} {a i c : Nat} {vs l : List Val} (h : G[a]? = some (.lst l)) (h1 : G[i]? = some (.ins c vs)) : a ≠ i := fun e => by
  rw [e, h1] at h
  cases h
theorem s_record {G : Store} {i : Nat} {t w r k : Int} {Q : Val → Store → Prop} (h : Lay G i t w r) (q : Q (.int (1 + 2 * t + w + k)) G) : W (m_Layout_record [.obj i, .int k] G) Q := by
  have e1 : getF [(0, 0)] (.obj i) G = some (.int t) := getF_o h
  have e2 : getF [(0, 1)] (.obj i) G = some (.int w) := getF_o h
  unfold m_Layout_record b_Layout_record
  rw [W_def]
  refine ⟨rfl, ?_⟩
  simp [e1, e2, fMul_l (show inRng 2 = true by decide), q]
theorem s_within {G : Store} {v lo hi : Int} {Q : Val → Store → Prop} (q : Q (.bl (decide (lo ≤ v) && decide (v ≤ hi))) G) : W (m_is_within [.int v, .int lo, .int hi] G) Q := by
  unfold m_is_within b_is_within
  rw [W_def]
  refine ⟨rfl, ?_⟩
  by_cases h : lo ≤ v
  · simp [W_chain, tyN, isTy, h] at q ⊢
    exact q
  · simp [W_chain, tyN, isTy, h] at q ⊢
    exact q
theorem s_Layout {G : Store} {i : Nat} {t w r : Int} {Q : Val → Store → Prop} (h : G[i]? = some (.ins 0 [])) (h1 : 1 ≤ t ∧ t ≤ 3) (h2 : 1 ≤ w ∧ w ≤ 4) (h3 : 4 ≤ r ∧ r ≤ 200) (q : Q .non (G.set i (.ins 0 [.int t, .int w, .int r]))) : W (m_Layout_init [.obj i, .int t, .int w, .int r] G) Q := by
  have hi := lt_of_get h
  unfold m_Layout_init b_Layout_init
  rw [W_def]
  refine ⟨rfl, ?_⟩
  have w1 : ∀ (v lo hi : Int) (Q : Val → Store → Prop), lo ≤ v ∧ v ≤ hi → Q (.bl true) G → W (m_is_within [.int v, .int lo, .int hi] G) Q := fun v lo hi Q hh q => s_within (by simp [hh.1, hh.2]; exact q)
  simp only [WS_seq, WS_if, W_tor, W_tnot, W_truth, W_callF, W_aCons, W_aNil, W_var, W_c]
  simp
  refine w1 _ _ _ _ h1 ?_
  simp [truth]
  refine w1 _ _ _ _ h2 ?_
  simp [truth]
  refine w1 _ _ _ _ h3 ?_
  have key : ∀ o, (G.set i o)[i]? = some o := fun o => List.getElem?_set_self hi
  simp [truth, setFld, h, key, -Bool.exists_bool]
  exact q
theorem s_at {G : Store} {j : Nat} {l : List Int} {k : Nat} {Q : Val → Store → Prop} (h : IL G j l) (q : Q (.int (l.getD k 0)) G) : W (m__law_at [.obj j, .int k] G) Q := by
  unfold m__law_at b__law_at
  rw [W_def]
  refine ⟨rfl, ?_⟩
  simp [bLen_o h, -Bool.exists_bool]
  by_cases hk : k < l.length
  · rw [if_pos hk, fIxS_n (itemsOf_o h) (w := .int (l.getD k 0)) (by simp [List.getElem?_map, List.getD_eq_getElem?_getD, List.getElem?_eq_getElem hk])]
    exact q
  · rw [if_neg hk]
    have e : l.getD k 0 = 0 := by simp [List.getD_eq_getElem?_getD, List.getElem?_eq_none (Nat.le_of_not_lt hk)]
    rw [← e]
    exact q
theorem s_free {G : Store} {i lay : Nat} {th : Int} {sp out : List Int} {Q : Val → Store → Prop} (h : Sto G i lay th sp out) (q : Q (.obj G.length) (G ++ [.lst (sp.map Val.int)])) : W (m_Store_free_cells [.obj i] G) Q := by
  obtain ⟨a, b, c, h1, h2, h3, h4⟩ := h.ex
  have e1 : getF [(5, 2)] (.obj i) G = some (.obj a) := getF_o h1
  unfold m_Store_free_cells b_Store_free_cells
  rw [W_def]
  refine ⟨rfl, ?_⟩
  simp [e1, bList_o h2, q]
theorem filter_ints (f : Int → Bool) : ∀ ns : List Int, (ns.map Val.int).filter (fun v => match v with | .int i => f i | _ => false) = (ns.filter f).map Val.int
  | [] => rfl
  | n :: ns => by
    have ih := filter_ints f ns
    by_cases h : f n = true <;> simp [h, ih]
/-- the cells of a thread -/
def part (t w th : Int) (cells : List Int) : List Int := sortI (cells.filter fun c => decide ((c - (1 + 2 * t + w + 0)) % t = th))
theorem s_divided {G : Store} {i j : Nat} {t w r th : Int} {cells : List Int} {Q : Val → Store → Prop} (h : Lay G i t w r) (ht : 0 < t) (hc : IL G j cells) (hl : cells.length ≤ 100000)
    (q : ∀ G' j', Grow G G' → G.length ≤ j' → IL G' j' (part t w th cells) → Q (.obj j') G') : W (m_divided [.obj i, .obj j, .int th] G) Q := by
  unfold m_divided b_divided
  rw [W_def]
  refine ⟨rfl, ?_⟩
  simp only [WS_ret, W_call, W_aCons, W_aNil]
  refine W_lcA (f := fun v => match v with | .int c => decide ((c - (1 + 2 * t + w + 0)) % t = th) | _ => false) (g := id) ?_
  simp [-Bool.exists_bool]
  refine ⟨_, itemsOf_o hc, by simpa using small_ok (by omega), fun v hv acc => ?_, ?_⟩
  · obtain ⟨c, _, rfl⟩ := List.mem_map.mp hv
    have h' : Lay (G ++ [Ob.lst acc]) i t w r := get_old h
    have e1 : getF [(0, 0)] (.obj i) (G ++ [Ob.lst acc]) = some (.int t) := getF_o h'
    refine ⟨_, rfl, ?_, ?_⟩
    · simp [wipe1, clsOf_o h', -Bool.exists_bool]
      refine s_record h' ?_
      simp [e1, fMod_ii ht, -Bool.exists_bool]
    · intro _
      simp [wipe1]
  · have e : (List.filter (fun v => match v with | Val.int c => decide ((c - (1 + 2 * t + w + 0)) % t = th) | _ => false) (List.map Val.int cells)) = ((cells.filter fun c => decide ((c - (1 + 2 * t + w + 0)) % t = th)).map Val.int) := filter_ints _ _
    simp only [Int.add_zero] at e
    simp [e]
    rw [bSortL_o get_new]
    simp
    exact q _ _ grow1 (by omega) (by
      unfold IL part
      simp)
theorem s_take {G : Store} {i lay : Nat} {th : Int} {sp out : List Int} {n : Nat} {Q : Val → Store → Prop} (h : Sto G i lay th sp out) (q0 : sp.length < n → Q .non G)
    (q : n ≤ sp.length → ∀ G', (∀ G2, But G.length G' G2 → Sto G2 i lay th (sp.drop n) out) → IL G' G.length (sp.take n) → But i G G' → Q (.obj G.length) G') : W (m_Store_take [.obj i, .int n] G) Q := by
  obtain ⟨a, b, c, h1, h2, h3, h4⟩ := h.ex
  have e1 : getF [(5, 2)] (.obj i) G = some (.obj a) := getF_o h1
  have hi := lt_of_get h1
  have hna : a ≠ i := fun e => ne_ins h2 h1 e
  have hnb : b ≠ i := fun e => ne_ins h3 h1 e
  have hnc : c ≠ i := fun e => ne_ins h4 h1 e
  unfold m_Store_take b_Store_take
  rw [W_def]
  refine ⟨rfl, ?_⟩
  simp [e1, bLen_o h2, -Bool.exists_bool]
  by_cases hn : sp.length < n
  · rw [if_pos hn]
    exact q0 hn
  · rw [if_neg hn]
    have hn' : n ≤ sp.length := by omega
    have h2' : (G ++ [Ob.lst (cutL (sp.map Val.int) none (some (n : Int)))])[a]? = some (.lst (sp.map Val.int)) := get_old h2
    have e1' : getF [(5, 2)] (.obj i) (G ++ [Ob.lst (cutL (sp.map Val.int) none (some (n : Int)))]) = some (.obj a) := getF_o (get_old h1)
    rw [fSl_o h2]
    simp [e1', -Bool.exists_bool]
    rw [fSl_o h2']
    simp [-Bool.exists_bool]
    refine ⟨_, setFld_old (p := 2) (get_old h1) (by simp), ?_⟩
    rw [cut_take, cut_drop]
    have lb := lt_of_get h3
    have lc := lt_of_get h4
    refine q hn' _ (fun G2 b2 => ⟨G.length + 1, b, c, b2.keep _ _ (by omega) (List.getElem?_set_self (by simp; omega)), b2.keep _ _ (by omega) ?_, b2.keep _ _ (by omega) ?_, b2.keep _ _ (by omega) ?_⟩) ?_ (But.of grow1)
    · rw [List.getElem?_set_ne (by omega)]
      simp
    · rw [List.getElem?_set_ne (Ne.symm hnb)]
      exact get_old h3
    · rw [List.getElem?_set_ne (Ne.symm hnc)]
      exact get_old h4
    · unfold IL
      rw [List.getElem?_set_ne (by omega)]
      simp
theorem s_give {G0 G : Store} {i j lay : Nat} {th : Int} {sp out back : List Int} {Q : Val → Store → Prop} (h0 : Sto G0 i lay th sp out) (g0 : Grow G0 G) (h0j : G0.length ≤ j) (hj : IL G j back) (hl : sp.length + back.length ≤ 100000)
    (q : ∀ G', (∀ G2, But j G' G2 → Sto G2 i lay th (sortI (sp ++ back)) out) → But i G G' → Q .non G') : W (m_Store_give_back [.obj i, .obj j] G) Q := by
  obtain ⟨a, b, c, h1, h2, h3, h4⟩ := h0.ex
  have lti := lt_of_get h1
  have lta := lt_of_get h2
  have ltb := lt_of_get h3
  have ltc := lt_of_get h4
  have ltj := lt_of_get hj
  replace h1 := g0.get h1
  replace h2 := h2.grow g0
  replace h3 := h3.grow g0
  replace h4 := g0.get h4
  have e1 : getF [(5, 2)] (.obj i) G = some (.obj a) := getF_o h1
  have hi := lt_of_get h1
  have hnb : b ≠ i := fun e => ne_ins h3 h1 e
  have hnc : c ≠ i := fun e => ne_ins h4 h1 e
  unfold m_Store_give_back b_Store_give_back
  rw [W_def]
  refine ⟨rfl, ?_⟩
  simp [e1, bList_o hj, -Bool.exists_bool]
  rw [fCat_oo (get_old h2) get_new (by simpa using small_ok (by omega)), ← List.map_append]
  simp only [W_ok]
  rw [bSortL_o get_new]
  simp only [W_ok]
  have hk : ∀ (J : Store) (x : Ob), (G ++ J).set i x = G.set i x ++ J := fun J x => List.set_append_left _ _ hi
  refine ⟨_, setFld_old (p := 2) (grow1.more.more.get h1) (by simp), ?_⟩
  refine q _ (fun G2 b2 => ⟨_, b, c, b2.keep _ _ (by omega) (List.getElem?_set_self (Nat.lt_of_lt_of_le hi (grow1.more.more).le)), b2.keep _ _ (by simp; omega) ?_, b2.keep _ _ (by omega) ?_, b2.keep _ _ (by omega) ?_⟩) (But.of (grow1.more.more))
  · rw [List.getElem?_set_ne (by simp; omega)]
    simp
  · rw [List.getElem?_set_ne (Ne.symm hnb)]
    exact (grow1.more.more).get h3
  · rw [List.getElem?_set_ne (Ne.symm hnc)]
    exact (grow1.more.more).get h4
theorem s_out {G0 G : Store} {i j lay : Nat} {th : Int} {sp out back : List Int} {Q : Val → Store → Prop} (h0 : Sto G0 i lay th sp out) (g0 : Grow G0 G) (h0j : G0.length ≤ j) (hj : IL G j back) (hl : out.length + back.length ≤ 100000)
    (q : ∀ G', (∀ G2, But j G' G2 → Sto G2 i lay th sp (out ++ back)) → But i G G' → Q .non G') : W (m_Store_take_out [.obj i, .obj j] G) Q := by
  obtain ⟨a, b, c, h1, h2, h3, h4⟩ := h0.ex
  have lti := lt_of_get h1
  have lta := lt_of_get h2
  have ltb := lt_of_get h3
  have ltc := lt_of_get h4
  have ltj := lt_of_get hj
  replace h1 := g0.get h1
  replace h2 := h2.grow g0
  replace h3 := h3.grow g0
  replace h4 := g0.get h4
  have e1 : getF [(5, 3)] (.obj i) G = some (.obj b) := getF_o h1
  have hi := lt_of_get h1
  have hna : a ≠ i := fun e => ne_ins h2 h1 e
  have hnc : c ≠ i := fun e => ne_ins h4 h1 e
  unfold m_Store_take_out b_Store_take_out
  rw [W_def]
  refine ⟨rfl, ?_⟩
  simp [e1, bList_o hj, -Bool.exists_bool]
  rw [fCat_oo (get_old h3) get_new (by simpa using small_ok (by omega)), ← List.map_append]
  simp only [W_ok]
  refine ⟨_, setFld_old (p := 3) (grow1.more.get h1) (by simp), ?_⟩
  refine q _ (fun G2 b2 => ⟨a, _, c, b2.keep _ _ (by omega) (List.getElem?_set_self (Nat.lt_of_lt_of_le hi (grow1.more).le)), b2.keep _ _ (by omega) ?_, b2.keep _ _ (by simp; omega) ?_, b2.keep _ _ (by omega) ?_⟩) (But.of (grow1.more))
  · rw [List.getElem?_set_ne (Ne.symm hna)]
    exact (grow1.more).get h2
  · rw [List.getElem?_set_ne (by simp; omega)]
    simp
  · rw [List.getElem?_set_ne (Ne.symm hnc)]
    exact (grow1.more).get h4
theorem s_wait {G : Store} {i lay : Nat} {th : Int} {sp out : List Int} {Q : Val → Store → Prop} (h : Sto G i lay th sp out)
    (q0 : out = [] → ∀ G' j, Grow G G' → G.length ≤ j → G'[j]? = some (.lst []) → Q (.obj j) G')
    (q1 : out ≠ [] → ∀ G' j k, Grow G G' → G.length ≤ j → G'[j]? = some (.lst [.tup [.non, .obj k]]) → IL G' k out → Q (.obj j) G') : W (m_Store_waiting [.obj i] G) Q := by
  obtain ⟨a, b, c, h1, h2, h3, h4⟩ := h.ex
  have e4 : getF [(5, 4)] (.obj i) G = some (.obj c) := getF_o h1
  unfold m_Store_waiting b_Store_waiting
  rw [W_def]
  refine ⟨rfl, ?_⟩
  simp only [WS_seq, WS_set]
  refine W_lcA (f := fun _ => true) (g := id) ?_
  simp [e4, -Bool.exists_bool]
  refine ⟨_, itemsOf_o h4, by simp, by simp, ?_⟩
  have e3 : getF [(5, 3)] (.obj i) (G ++ [Ob.lst []]) = some (.obj b) := getF_o (get_old h1)
  have h3' : IL (G ++ [Ob.lst []]) b out := get_old h3
  have ht : truth (G ++ [Ob.lst []]) (.obj b) = some (!out.isEmpty) := by
    rw [truth_lst h3']
    simp
  simp [e3, ht, isLst_o get_new, -Bool.exists_bool]
  by_cases ho : out = []
  · subst ho
    simp
    exact q0 rfl _ _ grow1 (Nat.le_refl _) get_new
  · have : out.isEmpty = false := by simp [ho]
    simp [this, bList_o h3', -Bool.exists_bool]
    refine ⟨small_ok (by decide), _, pushL_o (l := []) (by simp) (by decide), ?_⟩
    refine q1 ho _ _ (G.length + 1) ((grow1).set (Nat.le_refl _)) (Nat.le_refl _) (List.getElem?_set_self (by simp)) ?_
    unfold IL
    rw [List.getElem?_set_ne (by omega)]
    simp
theorem toD_mono {G G' : Store} (g : Grow G G') : ∀ (k : Nat) (v : Val) (d : PyData), toD G k v = some d → toD G' k v = some d := by
  intro k
  induction k with
  | zero => intro v d h; cases v <;> first | exact h | cases h
  | succ k ih =>
    have all : ∀ (l : List Val) (ds : List PyData), optAll (toD G k) l = some ds → optAll (toD G' k) l = some ds := by
      intro l
      induction l with
      | nil => intro ds h; exact h
      | cons a l ihl =>
        intro ds h
        obtain ⟨b, s, e1, e2, rfl⟩ := optAll_cons h
        unfold optAll
        rw [ih a b e1, ihl s e2]
    intro v d h
    cases v with
    | tup l =>
      have h' : (optAll (toD G k) l).map PyData.tuple = some d := h
      cases e : optAll (toD G k) l with
      | none => rw [e] at h'; cases h'
      | some ds =>
        rw [e] at h'
        show (optAll (toD G' k) l).map PyData.tuple = some d
        rw [all l ds e]
        exact h'
    | fro l =>
      have h' : (optAll (toD G k) l).map PyData.list = some d := h
      cases e : optAll (toD G k) l with
      | none => rw [e] at h'; cases h'
      | some ds =>
        rw [e] at h'
        show (optAll (toD G' k) l).map PyData.list = some d
        rw [all l ds e]
        exact h'
    | obj i =>
      have h' : (match G[i]? with | some (.lst l) => (optAll (toD G k) l).map PyData.list | _ => none) = some d := h
      cases e0 : G[i]? with
      | none => rw [e0] at h'; cases h'
      | some o =>
        rw [e0] at h'
        cases o with
        | lst l =>
          dsimp only at h'
          show (match G'[i]? with | some (.lst l) => (optAll (toD G' k) l).map PyData.list | _ => none) = some d
          rw [g.get e0]
          dsimp only
          cases e : optAll (toD G k) l with
          | none => rw [e] at h'; cases h'
          | some ds =>
            rw [e] at h'
            rw [all l ds e]
            exact h'
        | _ => cases h'
    | _ => exact h
theorem toD_wait {G : Store} {j k : Nat} {out : List Int} (h : G[j]? = some (.lst [.tup [.non, .obj k]])) (hk : IL G k out) : toD G dEq (.obj j) = some (.list [.tuple [.none, .list (out.map PyData.int)]]) := by
  have e : toD G 38 (.obj k) = some (.list (out.map PyData.int)) := by
    show (match G[k]? with | some (.lst l) => (optAll (toD G 37) l).map PyData.list | _ => none) = _
    rw [hk]
    dsimp only
    rw [toD_ints]
    rfl
  show (match G[j]? with | some (.lst l) => (optAll (toD G 39) l).map PyData.list | _ => none) = _
  rw [h]
  dsimp only
  have e2 : toD G 39 (.tup [.non, .obj k]) = some (.tuple [.none, .list (out.map PyData.int)]) := by
    show (optAll (toD G 38) [.non, .obj k]).map PyData.tuple = _
    have e3 : toD G 38 .non = some .none := rfl
    simp [optAll, e, e3]
  simp [optAll, e2]
theorem eqv_self_wait (out : List Int) : PyData.eqv (.list [.tuple [.none, .list (out.map PyData.int)]]) (.list [.tuple [.none, .list (out.map PyData.int)]]) = true := by
  have h := eqv_ints out out
  simp [PyData.eqv, PyData.eqvAll] at h ⊢
  exact h
theorem s_same {G : Store} {i jc jo lay : Nat} {th : Int} {sp out cells : List Int} {Q : Val → Store → Prop} (h : Sto G i lay th sp out) (hc : IL G jc cells) (ho : IL G jo out) (e : sp = sortI cells) (hl : sp.length ≤ 1000)
    (q : ∀ G', Grow G G' → Q (.bl true) G') : W (m__law_same [.obj i, .obj jc, .obj jo] G) Q := by
  have hcl : ∀ {G'}, Grow G G' → clsOf (.obj i) G' = some 5 := by
    intro G' g
    obtain ⟨a, b, c, h1, _⟩ := (h.grow g).ex
    exact clsOf_o h1
  unfold m__law_same b__law_same
  rw [W_def]
  refine ⟨rfl, ?_⟩
  simp [hcl .refl, -Bool.exists_bool]
  refine s_free h ?_
  have g1 : Grow G (G ++ [Ob.lst (sp.map Val.int)]) := grow1
  have n1 : IL (G ++ [Ob.lst (sp.map Val.int)]) G.length sp := get_new
  generalize (G ++ [Ob.lst (sp.map Val.int)]) = G1 at g1 n1 ⊢
  have ht : tyN G1 (.obj G.length) = some "list" := tyN_lst n1
  simp [ht, isTy, truth, -Bool.exists_bool]
  refine w_sortL (hc.grow g1) fun G2 k2 g2 l2 n2 => ?_
  rw [fNe_ll (n1.grow g2) n2]
  simp [e, -Bool.exists_bool]
  refine ⟨isLst_o (n1.grow g2), w_push (n1.grow g2) (by simp; omega) (g1.trans g2) (Nat.le_refl _) fun G3 g3 n3 b3 => ?_⟩
  have g4 : Grow G (G3 ++ [Ob.lst []]) := g3.more
  have n4 : LL (G3 ++ [Ob.lst []]) G3.length [] := get_new
  have l4 : G3.length < (G3 ++ [Ob.lst []]).length := by simp
  generalize (G3 ++ [Ob.lst []]) = G4 at g4 n4 l4 ⊢
  have fin : ∀ (G5 : Store) (k5 : Nat), Grow G G5 → k5 < G5.length → (if out = [] then LL G5 k5 [] else ∃ k, LL G5 k5 [.tup [.non, .obj k]] ∧ IL G5 k out) → W (eAnd (eOp fEq (eMeth [(5, m_Store_waiting)] [] (eVar 0) aNil) (eVar 4)) (eOp fEq (eMeth [(5, m_Store_free_cells)] [] (eVar 0) aNil) (eCall bSortL (aCons (eVar 1) aNil))) [some (.obj i), some (.obj jc), some (.obj jo), some (.obj G.length), some (.obj k5)] G5) Q := by
    intro G5 k5 g5 l5 n5
    simp [hcl g5, -Bool.exists_bool]
    have last : ∀ G6, Grow G G6 → W (eOp fEq (eMeth [(5, m_Store_free_cells)] [] (eVar 0) aNil) (eCall bSortL (aCons (eVar 1) aNil)) [some (.obj i), some (.obj jc), some (.obj jo), some (.obj G.length), some (.obj k5)] G6) Q := by
      intro G6 g6
      simp [hcl g6, -Bool.exists_bool]
      refine s_free (h.grow g6) ?_
      have g7 : Grow G6 (G6 ++ [Ob.lst (sp.map Val.int)]) := grow1
      have n7 : IL (G6 ++ [Ob.lst (sp.map Val.int)]) G6.length sp := get_new
      generalize (G6 ++ [Ob.lst (sp.map Val.int)]) = G7 at g7 n7 ⊢
      refine w_sortL (hc.grow (g6.trans g7)) fun G8 k8 g8 l8 n8 => ?_
      rw [fEq_ll (n7.grow g8) n8]
      simp [e]
      exact q _ (g6.trans (g7.trans g8))
    refine s_wait (h.grow g5) (fun h0 G6 j6 g6 l6 n6 => ?_) (fun h0 G6 j6 k6 g6 l6 n6 m6 => ?_)
    · rw [if_pos h0] at n5
      have ee : W (fEq (.obj j6) (.obj k5) G6) fun v G7 => v = .bl true ∧ G7 = G6 := by
        rw [fEq_ll (ns := []) (ms := []) n6 (g6.get n5)]
        simp
      refine W_mono ee fun v G7 ⟨hv, hG⟩ => ⟨true, hv, ?_⟩
      subst hG
      rw [if_pos rfl]
      have := last _ (g5.trans g6)
      simpa [-Bool.exists_bool] using this
    · rw [if_neg h0] at n5
      obtain ⟨k, n5, m5⟩ := n5
      have ee : W (fEq (.obj j6) (.obj k5) G6) fun v G7 => v = .bl true ∧ G7 = G6 := by
        unfold fEq
        rw [toD_wait n6 m6, toD_wait (g6.get n5) (g6.get m5)]
        simp [eqv_self_wait]
      refine W_mono ee fun v G7 ⟨hv, hG⟩ => ⟨true, hv, ?_⟩
      subst hG
      rw [if_pos rfl]
      have := last _ (g5.trans g6)
      simpa [-Bool.exists_bool] using this
  simp [bLen_o (g4.get ho), -Bool.exists_bool]
  by_cases h0 : out = []
  · subst h0
    simp [-Bool.exists_bool]
    have := fin G4 G3.length g4 l4 (by rw [if_pos rfl]; exact n4)
    simpa [-Bool.exists_bool] using this
  · have hp : 0 < out.length := List.length_pos_iff.mpr h0
    simp [hp, -Bool.exists_bool]
    refine w_listI (ho.grow g4) fun G5 k5 g5 l5 n5 => ⟨small_ok (by decide), small_ok (by decide), ?_⟩
    have := fin (G5 ++ [Ob.lst [.tup [.non, .obj k5]]]) G5.length ((g4.trans g5).more) (by simp) (by rw [if_neg h0]; exact ⟨k5, get_new, get_old n5⟩)
    simpa [-Bool.exists_bool] using this
/-- the thread of a cell -/
def thr (t w c : Int) : Int := (c - (1 + 2 * t + w + 0)) % t
theorem s_ldiv {G : Store} {i jc : Nat} {t w r : Int} {cells : List Int} {Q : Val → Store → Prop} (h : Lay G i t w r) (ht : 0 < t) (ht3 : t ≤ 3) (hc : IL G jc cells) (hl : cells.length ≤ 10000)
    (q : ∀ G', Grow G G' → Q (.bl true) G') : W (m__law_divided [.obj i, .obj jc, .int t] G) Q := by
  unfold m__law_divided b__law_divided
  rw [W_def]
  refine ⟨rfl, ?_⟩
  simp only [WS_seq, WS_set, WS_forR]
  have g1 : Grow G (G ++ [Ob.lst []]) := grow1
  have n1 : IL (G ++ [Ob.lst []]) G.length [] := get_new
  simp [-Bool.exists_bool]
  generalize (G ++ [Ob.lst []]) = G1 at g1 n1 ⊢
  have hr : rng1 [.int t] = some (rangeL 0 t.toNat) := by
    unfold rng1
    have : inLine t = true := by
      unfold inLine
      simp
      omega
    simp [this]
  refine ⟨_, hr, for_rng (fun n ρ G' => ∃ k a4 a5 a6 a7, ρ = [some (.obj i), some (.obj jc), some (.int t), some (.obj k), a4, a5, a6, a7] ∧ Grow G G' ∧ IL G' k (parts (thr t w) cells n)) ?_ ?_ ⟨G.length, _, _, _, _, rfl, g1, n1⟩⟩
  · rintro n hn ρ G2 ⟨k, a4, a5, a6, a7, rfl, g2, n2⟩
    refine ⟨_, rfl, ?_⟩
    unfold b__law_divided_l1
    have hn' : (n : Int) < t := by omega
    simp [-Bool.exists_bool]
    refine w_listI (hc.grow g2) fun G3 k3 g3 l3 n3 => ?_
    refine s_divided (h.grow (g2.trans g3)) ht n3 (by omega) fun G4 k4 g4 l4 n4 => ?_
    have g04 := g2.trans (g3.trans g4)
    refine W_lcA (f := fun v => match v with | .int c => decide (thr t w c = n) | _ => false) (g := id) ?_
    simp [-Bool.exists_bool]
    refine ⟨_, itemsOf_o (hc.grow g04), by simpa using small_ok (by omega), fun v hv acc => ?_, ?_⟩
    · obtain ⟨c, _, rfl⟩ := List.mem_map.mp hv
      have h' : Lay (G4 ++ [Ob.lst acc]) i t w r := (h.grow g04).grow grow1
      refine ⟨_, rfl, ?_, ?_⟩
      · simp [wipe1, clsOf_o h', -Bool.exists_bool]
        refine s_record h' ?_
        simp [fMod_ii ht, thr, -Bool.exists_bool]
      · intro _
        simp [wipe1]
    · have e : (List.filter (fun v => match v with | Val.int c => decide (thr t w c = n) | _ => false) (List.map Val.int cells)) = ((cells.filter fun c => decide (thr t w c = n)).map Val.int) := filter_ints _ _
      simp [e]
      have g5 : Grow G4 (G4 ++ [Ob.lst ((cells.filter fun c => decide (thr t w c = n)).map Val.int)]) := grow1
      have n5 : IL (G4 ++ [Ob.lst ((cells.filter fun c => decide (thr t w c = n)).map Val.int)]) G4.length (cells.filter fun c => decide (thr t w c = n)) := get_new
      generalize (G4 ++ [Ob.lst ((cells.filter fun c => decide (thr t w c = n)).map Val.int)]) = G5 at g5 n5 ⊢
      refine w_sortL n5 fun G6 k6 g6 l6 n6 => ?_
      have n4' : IL G6 k4 (sortI (cells.filter fun c => decide (thr t w c = n))) := (n4.grow g5).grow g6
      rw [fNe_ll n4' n6]
      have g26 := g3.trans (g4.trans (g5.trans g6))
      simp [-Bool.exists_bool]
      have hb : (parts (thr t w) cells n).length ≤ 100000 ∧ (sortI (cells.filter fun c => decide (thr t w c = n))).length ≤ 100000 := by
        have h1 := parts_len (thr t w) cells n
        have h2 := part_len (fun c => decide (thr t w c = n)) cells
        have h3 : n * cells.length ≤ 3 * cells.length := Nat.mul_le_mul_right _ (by omega)
        omega
      refine w_catI (n2.grow g26) n4' (by omega) fun G7 k7 g7 l7 n7 => ?_
      exact ⟨k7, rfl, g2.trans (g26.trans g7), n7⟩
  · rintro ρ G2 ⟨k, a4, a5, a6, a7, rfl, g2, n2⟩
    simp [-Bool.exists_bool]
    refine w_sortL n2 fun G3 k3 g3 l3 n3 => ?_
    refine w_sortL (hc.grow (g2.trans g3)) fun G4 k4 g4 l4 n4 => ?_
    rw [fEq_ll (n3.grow g4) n4]
    have e : sortI (parts (thr t w) cells t.toNat) = sortI cells := sortI_congr (parts_perm _ _ _ fun a => by
      unfold thr
      have h1 := Int.emod_nonneg (a - (1 + 2 * t + w + 0)) (show t ≠ 0 by omega)
      have h2 := Int.emod_lt_of_pos (a - (1 + 2 * t + w + 0)) ht
      omega)
    simp [e]
    exact q _ (g2.trans (g3.trans g4))
theorem il_snoc {G : Store} {i : Nat} {l : List Int} {v : Int} (h : LL G i (l.map Val.int ++ [.int v])) : IL G i (l ++ [v]) := by
  unfold IL
  rw [List.map_append]
  exact h
theorem rng1_nat (n : Nat) (h : n ≤ 1000000) : rng1 [.int n] = some (rangeL 0 n) := by
  unfold rng1
  have : inLine (n : Int) = true := by
    unfold inLine
    simp
    omega
  simp [this]
structure IT (ns : List Int) (G : Store) (n : Nat) (ρ : Env1) (G' : Store) : Prop where
  ex : ∃ l a2 a3 a4, ρ = [some (.fro (ns.map Val.int)), some (.obj G.length), a2, a3, a4] ∧ Grow G G' ∧ IL G' G.length l ∧ l.length ≤ 60 * n
structure IT2 (ns : List Int) (G : Store) (n m : Nat) (ρ : Env1) (G' : Store) : Prop where
  ex : ∃ l v a4, ρ = [some (.fro (ns.map Val.int)), some (.obj G.length), some (.int n), some (.int v), a4] ∧ Grow G G' ∧ IL G' G.length l ∧ l.length ≤ 60 * n + m
theorem pow18 {G : Store} : fPow (.int 10) (.int 18) G = .ok (.int (10 ^ 18)) G := rfl
theorem s_tape {G : Store} {ns : List Int} {Q : Val → Store → Prop} (hn : ns.length ≤ 63) (q : ∀ G' j l, Grow G G' → IL G' j l → l.length ≤ 10000 → Q (.obj j) G') : W (m__law_tape [.fro (ns.map Val.int)] G) Q := by
  unfold m__law_tape b__law_tape
  rw [W_def]
  refine ⟨rfl, ?_⟩
  simp only [WS_seq, WS_set, WS_forR]
  have g1 : Grow G (G ++ [Ob.lst []]) := grow1
  have n1 : IL (G ++ [Ob.lst []]) G.length [] := get_new
  simp [-Bool.exists_bool]
  generalize (G ++ [Ob.lst []]) = G1 at g1 n1 ⊢
  have hlen : bLen [.fro (ns.map Val.int)] G1 = .ok (.int ns.length) G1 := by
    rw [bLen_s (l := ns.map Val.int) rfl]
    simp
  rw [hlen]
  simp only [W_ok]
  refine ⟨_, rng1_nat _ (by omega), for_rng (IT ns G) ?_ ?_ ⟨[], _, _, _, rfl, g1, n1, by simp⟩⟩
  · rintro n hn' ρ G2 ⟨l, a2, a3, a4, rfl, g2, n2, b2⟩
    refine ⟨_, rfl, ?_⟩
    unfold b__law_tape_l3
    have hix : fIxS (.fro (ns.map Val.int)) (.int n) G2 = .ok (.int (ns.getD n 0)) G2 := fIxS_n (l := ns.map Val.int) rfl (by simp [List.getElem?_map, List.getD_eq_getElem?_getD, List.getElem?_eq_getElem hn'])
    simp [hix, pow18, -Bool.exists_bool, -List.getD_eq_getElem?_getD]
    generalize (if ns.getD n 0 < 0 then -ns.getD n 0 else ns.getD n 0) = v
    by_cases hv : (10 : Int) ^ 18 ≤ v
    · have hv' : (1000000000000000000 : Int) ≤ v := hv
      simp [hv', WS_forR, -Bool.exists_bool]
      refine ⟨_, rng1_nat 60 (by omega), for_rng (IT2 ns G n) ?_ ?_ ⟨l, _, _, rfl, g2, n2, by omega⟩⟩
      · rintro m hm ρ G3 ⟨l, v, a4, rfl, g3, n3, b3⟩
        refine ⟨_, rfl, ?_⟩
        unfold b__law_tape_l1
        simp [-Bool.exists_bool]
        by_cases hv0 : 0 < v
        · simp [hv0, isLst_o n3, fMod_ii (show (0 : Int) < 1000 by decide), fDiv_ii (show (0 : Int) < 1000 by decide) (show (1000 : Int) < 1073741824 by decide), -Bool.exists_bool]
          refine w_push n3 (by simp; omega) g3 (Nat.le_refl _) fun G4 g4 n4 _ => ?_
          exact ⟨_, _, _, rfl, g4, il_snoc n4, by simp; omega⟩
        · simp [hv0, -Bool.exists_bool]
          exact ⟨l, _, _, rfl, g3, n3, by omega⟩
      · rintro ρ G3 ⟨l, v, a4, rfl, g3, n3, b3⟩
        exact ⟨l, _, _, _, rfl, g3, n3, by omega⟩
    · have hv' : ¬ (1000000000000000000 : Int) ≤ v := hv
      simp [hv', WS_forR, -Bool.exists_bool]
      refine ⟨_, rng1_nat 4 (by omega), for_rng (IT2 ns G n) ?_ ?_ ⟨l, _, _, rfl, g2, n2, by omega⟩⟩
      · rintro m hm ρ G3 ⟨l, v, a4, rfl, g3, n3, b3⟩
        refine ⟨_, rfl, ?_⟩
        unfold b__law_tape_l2
        simp [fMul_r (show inRng 48271 = true by decide), fMul_l (show inRng 69621 = true by decide), fMul_l (show inRng 7 = true by decide), fMul_r (show inRng 16807 = true by decide), isLst_o n3, fMod_ii (show (0 : Int) < 1000 by decide), fMod_ii (show (0 : Int) < 2147483647 by decide), fDiv_ii (show (0 : Int) < 1000 by decide) (show (1000 : Int) < 1073741824 by decide), -Bool.exists_bool]
        refine w_push n3 (by simp; omega) g3 (Nat.le_refl _) fun G4 g4 n4 _ => ?_
        exact ⟨_, _, _, rfl, g4, il_snoc n4, by simp; omega⟩
      · rintro ρ G3 ⟨l, v, a4, rfl, g3, n3, b3⟩
        exact ⟨l, _, _, _, rfl, g3, n3, by omega⟩
  · rintro ρ G2 ⟨l, a2, a3, a4, rfl, g2, n2, b2⟩
    simp
    exact q _ _ _ g2 n2 (by omega)
theorem s_Store {G : Store} {i j lay : Nat} {th : Int} {cells : List Int} {Q : Val → Store → Prop} (h : G[i]? = some (.ins 5 [])) (hj : IL G j cells)
    (q : ∀ G', (∀ G2, But j G' G2 → Sto G2 i lay th (sortI cells) []) → But i G G' → Q .non G') : W (m_Store_init [.obj i, .obj lay, .int th, .obj j] G) Q := by
  have hi := lt_of_get h
  have hji := ne_ins hj h
  have ltj := lt_of_get hj
  unfold m_Store_init b_Store_init
  rw [W_def]
  refine ⟨rfl, ?_⟩
  simp only [WS_seq, WS_fld]
  simp [-Bool.exists_bool]
  refine ⟨_, setFld_new (vs := []) h, ?_⟩
  have k1 : ∀ o, (G.set i o)[i]? = some o := fun o => List.getElem?_set_self hi
  refine ⟨_, setFld_new (vs := [.obj lay]) (k1 _), ?_⟩
  have hj2 : IL ((G.set i (.ins 5 ([] ++ [.obj lay]))).set i (.ins 5 ([.obj lay] ++ [.int th]))) j cells := by
    unfold IL
    rw [List.getElem?_set_ne (Ne.symm hji), List.getElem?_set_ne (Ne.symm hji)]
    exact hj
  have hi2 : ((G.set i (.ins 5 ([] ++ [.obj lay]))).set i (.ins 5 ([.obj lay] ++ [.int th])))[i]? = some (.ins 5 ([.obj lay] ++ [.int th])) := List.getElem?_set_self (by rw [List.length_set]; exact hi)
  have b2 : But i G ((G.set i (.ins 5 ([] ++ [.obj lay]))).set i (.ins 5 ([.obj lay] ++ [.int th]))) := (But.of .refl).trans (But.of .refl)
  generalize ((G.set i (.ins 5 ([] ++ [.obj lay]))).set i (.ins 5 ([.obj lay] ++ [.int th]))) = G2 at hj2 hi2 b2 ⊢
  have le2 := b2.le
  refine w_sortL hj2 fun G3 k3 g3 l3 n3 => ?_
  refine ⟨_, setFld_new (vs := [.obj lay, .int th]) (g3.get hi2), ?_⟩
  have h4 : (G3.set i (.ins 5 ([.obj lay, .int th] ++ [.obj k3])))[i]? = some (.ins 5 ([.obj lay, .int th] ++ [.obj k3])) := List.getElem?_set_self (lt_of_get (g3.get hi2))
  have n4 : IL (G3.set i (.ins 5 ([.obj lay, .int th] ++ [.obj k3]))) k3 (sortI cells) := by
    unfold IL
    rw [List.getElem?_set_ne (Ne.symm (ne_ins n3 (g3.get hi2)))]
    exact n3
  have b4 : But i G (G3.set i (.ins 5 ([.obj lay, .int th] ++ [.obj k3]))) := b2.trans (But.of g3)
  generalize (G3.set i (.ins 5 ([.obj lay, .int th] ++ [.obj k3]))) = G4 at h4 n4 b4 ⊢
  have le4 := b4.le
  refine ⟨_, setFld_new (vs := [.obj lay, .int th, .obj k3]) (get_old h4), ?_⟩
  have lk3 := lt_of_get n4
  have li := lt_of_get h4
  have h5 : ((G4 ++ [Ob.lst []]).set i (.ins 5 ([.obj lay, .int th, .obj k3] ++ [.obj G4.length])))[i]? = some (.ins 5 ([.obj lay, .int th, .obj k3] ++ [.obj G4.length])) := List.getElem?_set_self (by simp; omega)
  have n5 : IL ((G4 ++ [Ob.lst []]).set i (.ins 5 ([.obj lay, .int th, .obj k3] ++ [.obj G4.length]))) k3 (sortI cells) := by
    unfold IL
    rw [List.getElem?_set_ne (Ne.symm (ne_ins n4 h4))]
    exact get_old n4
  have m5 : IL ((G4 ++ [Ob.lst []]).set i (.ins 5 ([.obj lay, .int th, .obj k3] ++ [.obj G4.length]))) G4.length [] := by
    unfold IL
    rw [List.getElem?_set_ne (by omega)]
    exact get_new
  have b5 : But i G ((G4 ++ [Ob.lst []]).set i (.ins 5 ([.obj lay, .int th, .obj k3] ++ [.obj G4.length]))) := b4.trans (But.of grow1)
  have e5 : ((G4 ++ [Ob.lst []]).set i (.ins 5 ([.obj lay, .int th, .obj k3] ++ [.obj G4.length]))).length = G4.length + 1 := by simp
  generalize ((G4 ++ [Ob.lst []]).set i (.ins 5 ([.obj lay, .int th, .obj k3] ++ [.obj G4.length]))) = G5 at h5 n5 m5 b5 e5 ⊢
  refine ⟨_, setFld_new (vs := [.obj lay, .int th, .obj k3, .obj G4.length]) (get_old h5), ?_⟩
  refine q _ (fun G6 b6 => ⟨k3, G4.length, G5.length, b6.keep _ _ (Ne.symm hji) (List.getElem?_set_self (by simp; omega)), b6.keep _ _ (by omega) ?_, b6.keep _ _ (by omega) ?_, b6.keep _ _ (by omega) ?_⟩) (b5.trans (But.of grow1))
  · rw [List.getElem?_set_ne (Ne.symm (ne_ins n5 h5))]
    exact get_old n5
  · rw [List.getElem?_set_ne (by omega)]
    exact get_old m5
  · rw [List.getElem?_set_ne (by omega)]
    exact get_new
end Dk

namespace Dk
open PySem R1
/-! the plain law: what is taken, given back -/
theorem drop_of {cells : List Int} (nd : cells.Nodup) (m : Nat) : sortI (cells.filter fun c => decide (¬ c ∈ (sortI cells).take m)) = (sortI cells).drop m := by
  have h1 : ((sortI cells).filter fun c => decide (¬ c ∈ (sortI cells).take m)) = (sortI cells).drop m := by
    have nd2 : (sortI cells).Nodup := (sortI_perm cells).nodup_iff.mpr nd
    conv => lhs; rw [← List.take_append_drop m (sortI cells)]
    rw [← List.take_append_drop m (sortI cells)] at nd2
    rw [List.filter_append]
    have a1 : ((sortI cells).take m).filter (fun c => decide (¬ c ∈ (List.take m (List.take m (sortI cells) ++ List.drop m (sortI cells))))) = [] := by
      rw [List.take_append_drop]
      simp
    have a2 : ((sortI cells).drop m).filter (fun c => decide (¬ c ∈ (List.take m (List.take m (sortI cells) ++ List.drop m (sortI cells))))) = (sortI cells).drop m := by
      rw [List.take_append_drop]
      rw [List.filter_eq_self]
      intro c hc
      simp only [decide_eq_true_eq]
      exact fun hm => (List.nodup_append.mp nd2).2.2 c hm c hc rfl
    rw [a1, a2]
    rfl
  rw [← h1]
  refine Eq.symm (sortI_uniq ?_ ?_)
  · exact ((sortI_perm cells).filter _)
  · exact (sortI_sorted cells).filter _
structure IM (tape : List Int) (ρ : Env1) (G : Store) : Prop where
  ex : ∃ a0 jt a2 a3 a4 lay a5 a6 jc a8 js jk jo a12 a13 a14 a15 a16 a17 a18 a19 a20 th cells taken outs, ρ = [a0, some (.obj jt), a2, a3, a4, a5, a6, some (.obj jc), a8, some (.obj js), some (.obj jk), some (.obj jo), a12, a13, a14, a15, a16, a17, a18, a19, a20] ∧
    IL G jt tape ∧ IL G jc cells ∧ IL G jk taken ∧ IL G jo outs ∧ Sto G js lay th (sortI cells) outs ∧ (cells ++ taken).Nodup ∧ cells.length + taken.length + outs.length ≤ 300
theorem s_at' {G : Store} {j : Nat} {l : List Int} {k : Nat} {i : Int} {Q : Val → Store → Prop} (h : IL G j l) (e : i = k) (q : Q (.int (l.getD k 0)) G) : W (m__law_at [.obj j, .int i] G) Q := by
  rw [e]
  exact s_at h q
theorem clsS {G : Store} {i lay : Nat} {th : Int} {sp out : List Int} (h : Sto G i lay th sp out) : clsOf (.obj i) G = some 5 := by
  obtain ⟨a, b, c, h1, _⟩ := h.ex
  exact clsOf_o h1
theorem Sto.ne {G : Store} {i j lay : Nat} {th : Int} {sp out ns : List Int} (h : Sto G i lay th sp out) (hj : IL G j ns) : j ≠ i := by
  obtain ⟨a, b, c, h1, _⟩ := h.ex
  exact ne_ins hj h1
theorem tail_ok {tape : List Int} {ρ : Env1} {G : Store} {T : Val → Store → Prop} {B C : Env1 → Store → Prop} (h : IM tape ρ G) : WS (sIf (tNot1 (eTruth (eCallF m__law_same [] (aCons (eVar 9) (aCons (eVar 7) (aCons (eVar 11) aNil)))))) (sRet (eC (.bl false))) sPass ρ G) (IM tape) T B C := by
  obtain ⟨a0, jt, a2, a3, a4, lay, a5, a6, jc, a8, js, jk, jo, a12, a13, a14, a15, a16, a17, a18, a19, a20, th, cells, taken, outs, rfl, h1, h2, h3, h4, h5, h6, h7⟩ := h
  simp [-Bool.exists_bool]
  refine s_same h5 h2 h4 rfl (by rw [sortI_len]; omega) fun G' g => ?_
  simp [truth]
  exact ⟨_, _, _, _, _, lay, _, _, _, _, _, _, _, _, _, _, _, _, _, _, _, _, th, _, _, _, rfl, h1.grow g, h2.grow g, h3.grow g, h4.grow g, h5.grow g, h6, h7⟩
theorem step_ok {tape : List Int} {ρ : Env1} {G : Store} {T : Val → Store → Prop} {B : Env1 → Store → Prop} (n : Nat) (h : IM tape ρ G) : ∃ ρ1, ptSet G (.nm 12) (.int (0 + n)) ρ = some ρ1 ∧ WS (b_law_l1 ρ1 G) (IM tape) T B (IM tape) := by
  refine ⟨_, rfl, ?_⟩
  obtain ⟨a0, jt, a2, a3, a4, lay, a5, a6, jc, a8, js, jk, jo, a12, a13, a14, a15, a16, a17, a18, a19, a20, th, cells, taken, outs, rfl, h1, h2, h3, h4, h5, h6, h7⟩ := h
  unfold b_law_l1
  rw [WS_seq, WS_set]
  simp only [W_callF, W_aCons, W_aNil, W_op, W_var, W_c]
  simp [fMul_l (show inRng 2 = true by decide), -Bool.exists_bool, -WS_seq, -WS_if, -List.getD_eq_getElem?_getD]
  refine s_at' (k := 2 * n + 4) h1 (by simp) ?_
  rw [WS_seq, WS_set]
  simp only [W_callF, W_aCons, W_aNil, W_op, W_var, W_c]
  simp [fMul_l (show inRng 2 = true by decide), -Bool.exists_bool, -WS_seq, -WS_if, -List.getD_eq_getElem?_getD]
  refine s_at' (k := 2 * n + 5) h1 (by simp) ?_
  generalize tape.getD (2 * n + 4) 0 = number
  generalize tape.getD (2 * n + 5) 0 = pick
  rw [WS_seq]
  refine WS_mono (N := IM tape) (T := T) (B := B) (C := IM tape) ?_ (fun ρ G h => tail_ok h) (fun _ _ h => h) (fun _ _ h => h) (fun _ _ h => h)
  simp [fMod_ii (show (0 : Int) < 3 by decide), -Bool.exists_bool, -WS_seq]
  by_cases c0 : number % 3 = 0
  · simp [c0, fMod_ii (show (0 : Int) < 10 by decide), clsS h5, -Bool.exists_bool]
    obtain ⟨m, hm⟩ : ∃ m : Nat, pick % 10 = m := ⟨(pick % 10).toNat, by omega⟩
    rw [hm]
    refine s_take h5 (fun hl => ?_) (fun hl G1 f1 n1 b1 => ?_)
    · rw [sortI_len] at hl
      simp [bLen_o h2, hl, isNon, -Bool.exists_bool]
      exact ⟨_, _, _, _, _, lay, _, _, _, _, _, _, _, _, _, _, _, _, _, _, _, _, th, _, _, _, rfl, h1, h2, h3, h4, h5, h6, h7⟩
    · rw [sortI_len] at hl
      have hl' : ¬ cells.length < m := by omega
      have i1 := b1.il (h5.ne h1) h1
      have i2 := b1.il (h5.ne h2) h2
      have i3 := b1.il (h5.ne h3) h3
      have i4 := b1.il (h5.ne h4) h4
      have lt1 := lt_of_get h1
      have lt2 := lt_of_get h2
      have lt3 := lt_of_get h3
      have lt4 := lt_of_get h4
      have lt5 := lt_of_get n1
      simp [bLen_o i2, hl', -Bool.exists_bool]
      refine w_sortL i2 fun G2 k2 g2 l2 n2 => ?_
      refine w_takeI n2 fun G3 k3 g3 l3 n3 => ?_
      have g13 := g2.trans g3
      have n1' := n1.grow g13
      have le3 := g13.le
      have lk3 := lt_of_get n3
      refine ⟨_, tyN_lst n1', ?_⟩
      simp [isTy, truth, -Bool.exists_bool]
      rw [fNe_ll n1' n3]
      simp [-Bool.exists_bool]
      refine w_filterI (fun c => decide (¬ c ∈ (sortI cells).take m)) rfl (i2.grow g13) (by omega) (fun c hc G4 g4 => ⟨_, rfl, ?_, ?_⟩) fun G4 k4 g4 l4 n4 => ?_
      · simp [wipe1, -Bool.exists_bool]
        rw [fIn_il (n3.grow g4)]
        simp
        exact Decidable.em _
      · intro _
        simp [wipe1]
      have g14 := g13.trans g4
      refine w_catI (i3.grow g14) (n3.grow g4) (by simp; omega) fun G5 k5 g5 l5 n5 => ?_
      have g15 := g14.trans g5
      refine ⟨isLst_o (n1.grow g15), w_push0 (n1.grow g15) (by simp; omega) fun G6 n6 b6 => ?_⟩
      have le4 := g4.le
      have le5 := g5.le
      refine ⟨_, _, _, _, _, lay, _, _, _, _, _, _, _, _, _, _, _, _, _, _, _, _, th, _, _, _, rfl, b6.il (by omega) (i1.grow g15), b6.il (by omega) (n4.grow g5), b6.il (by omega) n5, b6.il (by omega) (i4.grow g15), ?_, ?_, ?_⟩
      · have := f1 G6 ((But.grow g15).trans b6)
        rw [drop_of (List.nodup_append.mp h6).1]
        exact this
      · have p1 : ((cells.filter fun c => decide (¬ c ∈ (sortI cells).take m)) ++ (sortI cells).take m).Perm cells := by
          have a1 := drop_of (List.nodup_append.mp h6).1 m
          have a2 := sortI_perm (cells.filter fun c => decide (¬ c ∈ (sortI cells).take m))
          rw [a1] at a2
          refine (a2.symm.append_right _).trans ?_
          refine List.perm_append_comm.trans ?_
          rw [List.take_append_drop]
          exact sortI_perm cells
        have p2 : ((cells.filter fun c => decide (¬ c ∈ (sortI cells).take m)) ++ (taken ++ (sortI cells).take m)).Perm (cells ++ taken) := by
          refine (List.Perm.append_left _ List.perm_append_comm).trans ?_
          rw [← List.append_assoc]
          exact p1.append_right _
        exact p2.nodup_iff.mpr h6
      · have a1 := congrArg List.length (drop_of (List.nodup_append.mp h6).1 m)
        rw [sortI_len, List.length_drop, sortI_len] at a1
        rw [List.length_append, List.length_take, sortI_len, a1]
        omega
  · by_cases c1 : number % 3 = 1
    · have hpos : (0 : Int) < (taken.length : Int) + 1 := by omega
      simp [c0, c1, bLen_o h3, fMod_ii hpos, -Bool.exists_bool]
      obtain ⟨m, hm⟩ : ∃ m : Nat, pick % ((taken.length : Int) + 1) = m := ⟨(pick % ((taken.length : Int) + 1)).toNat, by have := Int.emod_nonneg pick (show (taken.length : Int) + 1 ≠ 0 by omega); omega⟩
      have hm2 : m ≤ taken.length := by
        have := Int.emod_lt_of_pos pick hpos
        omega
      rw [hm]
      have hlen : (taken.take m).length = m := by rw [List.length_take]; omega
      refine w_takeI h3 fun G1 k1 g1 l1 n1 => ?_
      refine w_listI n1 fun G2 k2 g2 l2 n2 => ?_
      have g12 := g1.trans g2
      have le1 := g1.le
      have lk1 := lt_of_get n1
      simp [clsS (h5.grow g12), -Bool.exists_bool]
      refine s_give (G0 := G) h5 g12 (by omega) n2 (by simp [sortI_len]; omega) fun G3 f3 b3 => ?_
      have h5' := h5.grow g12
      have i1 := b3.il (h5'.ne (h1.grow g12)) (h1.grow g12)
      have i2 := b3.il (h5'.ne (h2.grow g12)) (h2.grow g12)
      have i3 := b3.il (h5'.ne (h3.grow g12)) (h3.grow g12)
      have i4 := b3.il (h5'.ne (h4.grow g12)) (h4.grow g12)
      have m1 := b3.il (h5'.ne (n1.grow g2)) (n1.grow g2)
      have m2 := b3.il (h5'.ne n2) n2
      have lt1 := lt_of_get h1
      have lt2 := lt_of_get h2
      have lt3 := lt_of_get h3
      have lt4 := lt_of_get h4
      refine ⟨isLst_o m2, w_push0 m2 (by simp; omega) fun G4 n4 b4 => ?_⟩
      have j1 := b4.il (by omega) i1
      have j2 := b4.il (by omega) i2
      have j3 := b4.il (by omega) i3
      have j4 := b4.il (by omega) i4
      have q1 := b4.il (by omega) m1
      rw [bLen_o q1]
      simp only [List.length_map, hlen, W_ok]
      refine ⟨_, rfl, w_dropI j3 fun G5 k5 g5 l5 n5 => ?_⟩
      have h5x := (f3 G4 b4).grow g5
      refine w_catI (j2.grow g5) (q1.grow g5) (by simp; omega) fun G6 k6 g6 l6 n6 => ?_
      have g46 := g5.trans g6
      refine ⟨_, _, _, _, _, lay, _, _, _, _, _, _, _, _, _, _, _, _, _, _, _, _, th, _, _, _, rfl, j1.grow g46, n6, n5.grow g6, j4.grow g46, ?_, ?_, ?_⟩
      · have e : sortI (sortI cells ++ taken.take m) = sortI (cells ++ taken.take m) := sortI_congr ((sortI_perm cells).append_right _)
        rw [← e]
        exact h5x.grow g6
      · rw [List.append_assoc, List.take_append_drop]
        exact h6
      · rw [List.length_append, List.length_drop, hlen]
        omega
    · have hpos : (0 : Int) < (taken.length : Int) + 1 := by omega
      simp [c0, c1, bLen_o h3, fMod_ii hpos, -Bool.exists_bool]
      obtain ⟨m, hm⟩ : ∃ m : Nat, pick % ((taken.length : Int) + 1) = m := ⟨(pick % ((taken.length : Int) + 1)).toNat, by have := Int.emod_nonneg pick (show (taken.length : Int) + 1 ≠ 0 by omega); omega⟩
      have hm2 : m ≤ taken.length := by
        have := Int.emod_lt_of_pos pick hpos
        omega
      rw [hm]
      have hlen : (taken.take m).length = m := by rw [List.length_take]; omega
      refine w_takeI h3 fun G1 k1 g1 l1 n1 => ?_
      refine w_listI n1 fun G2 k2 g2 l2 n2 => ?_
      have g12 := g1.trans g2
      have le1 := g1.le
      have lk1 := lt_of_get n1
      simp [clsS (h5.grow g12), -Bool.exists_bool]
      refine s_out (G0 := G) h5 g12 (by omega) n2 (by simp [sortI_len]; omega) fun G3 f3 b3 => ?_
      have h5' := h5.grow g12
      have i1 := b3.il (h5'.ne (h1.grow g12)) (h1.grow g12)
      have i2 := b3.il (h5'.ne (h2.grow g12)) (h2.grow g12)
      have i3 := b3.il (h5'.ne (h3.grow g12)) (h3.grow g12)
      have i4 := b3.il (h5'.ne (h4.grow g12)) (h4.grow g12)
      have m1 := b3.il (h5'.ne (n1.grow g2)) (n1.grow g2)
      have m2 := b3.il (h5'.ne n2) n2
      have lt1 := lt_of_get h1
      have lt2 := lt_of_get h2
      have lt3 := lt_of_get h3
      have lt4 := lt_of_get h4
      refine ⟨isLst_o m2, w_push0 m2 (by simp; omega) fun G4 n4 b4 => ?_⟩
      have j1 := b4.il (by omega) i1
      have j2 := b4.il (by omega) i2
      have j3 := b4.il (by omega) i3
      have j4 := b4.il (by omega) i4
      have q1 := b4.il (by omega) m1
      rw [bLen_o q1]
      simp only [List.length_map, hlen, W_ok]
      refine ⟨_, rfl, w_dropI j3 fun G5 k5 g5 l5 n5 => ?_⟩
      have h5x := (f3 G4 b4).grow g5
      refine w_catI (j4.grow g5) (q1.grow g5) (by simp; omega) fun G6 k6 g6 l6 n6 => ?_
      have g46 := g5.trans g6
      refine ⟨_, _, _, _, _, lay, _, _, _, _, _, _, _, _, _, _, _, _, _, _, _, _, th, _, _, _, rfl, j1.grow g46, j2.grow g46, n5.grow g6, n6, h5x.grow g6, ?_, ?_⟩
      · refine List.Nodup.sublist ?_ h6
        exact List.Sublist.append_left (List.drop_sublist _ _) _
      · rw [List.length_append, List.length_drop, hlen]
        omega
theorem rec_nodup (k0 : Int) (lo : Int) (m : Nat) : ((List.range m).map fun (j : Nat) => k0 + (lo + (j : Int))).Nodup := by
  unfold List.Nodup
  rw [List.pairwise_map]
  refine List.Pairwise.imp ?_ (List.nodup_range (n := m))
  intro a b h e
  exact h (by omega)
theorem rec_filter (f : Val → Bool) (g : Val → Val) (lo : Int) (m : Nat) (f' : Int → Bool) (k0 : Int) (hf : ∀ i : Int, f (.int i) = f' i) (hg : ∀ i : Int, g (.int i) = .int (k0 + i)) : ((rangeL lo m).filter f).map g = (((List.range m).map fun (j : Nat) => lo + (j : Int)).filter f' |>.map fun i => k0 + i).map Val.int := by
  have e : rangeL lo m = ((List.range m).map fun (j : Nat) => lo + (j : Int)).map Val.int := by
    unfold rangeL
    rw [List.map_map]
    rfl
  rw [e]
  generalize ((List.range m).map fun (j : Nat) => lo + (j : Int)) = l
  induction l with
  | nil => rfl
  | cons a l ih =>
    rw [List.map_cons, List.filter_cons, hf a, List.filter_cons]
    by_cases h : f' a = true
    · rw [if_pos h, if_pos h, List.map_cons, hg a, ih]
      rfl
    · rw [if_neg h, if_neg h, ih]
theorem rng1_int {v : Int} (h1 : -(2 ^ 62) ≤ v) (h2 : v < 2 ^ 62) : rng1 [.int v] = some (rangeL 0 v.toNat) := by
  unfold rng1
  have : inLine v = true := by
    unfold inLine
    simp
    omega
  simp [this]
theorem rng2_int {u v : Int} (h1 : -(2 ^ 62) ≤ v ∧ -(2 ^ 62) ≤ u) (h2 : v < 2 ^ 62 ∧ u < 2 ^ 62) : rng2 [.int u, .int v] = some (rangeL u (v - u).toNat) := by
  unfold rng2
  have a : inLine v = true := by
    unfold inLine
    simp
    omega
  have b : inLine u = true := by
    unfold inLine
    simp
    omega
  simp [a, b]
theorem rangeL_int {lo : Int} {m : Nat} {v : Val} (h : v ∈ rangeL lo m) : ∃ c : Int, v = .int c := by
  unfold rangeL at h
  obtain ⟨j, _, e⟩ := List.mem_map.mp h
  exact ⟨_, e.symm⟩
theorem mirror_W (ns : List Int) (hn : ns.length ≤ 63) (G : Store) : W (m_law [.fro (ns.map Val.int)] G) fun v _ => v = .bl true := by
  unfold m_law b_law
  rw [W_def]
  refine ⟨rfl, ?_⟩
  rw [WS_seq, WS_set]
  simp [-Bool.exists_bool, -WS_seq, -WS_if]
  refine s_tape hn fun G1 jt tape g1 n1 bt => ?_
  rw [WS_seq, WS_set]
  simp [-Bool.exists_bool, -WS_seq, -WS_if]
  refine s_at' (k := 0) n1 (by decide) ?_
  simp [fMod_ii (show (0 : Int) < 3 by decide), -Bool.exists_bool, -WS_seq, -WS_if, -List.getD_eq_getElem?_getD]
  generalize tape.getD 0 0 = x0
  obtain ⟨t, ht, ht1, ht3⟩ : ∃ t : Int, 1 + x0 % 3 = t ∧ 1 ≤ t ∧ t ≤ 3 := ⟨_, rfl, by omega, by omega⟩
  rw [ht]
  rw [WS_seq, WS_set]
  simp [-Bool.exists_bool, -WS_seq, -WS_if]
  refine s_at' (k := 1) n1 (by decide) ?_
  simp [fMod_ii (show (0 : Int) < 4 by decide), -Bool.exists_bool, -WS_seq, -WS_if, -List.getD_eq_getElem?_getD]
  generalize tape.getD 1 0 = x1
  obtain ⟨w, hw, hw1, hw4⟩ : ∃ w : Int, 1 + x1 % 4 = w ∧ 1 ≤ w ∧ w ≤ 4 := ⟨_, rfl, by omega, by omega⟩
  rw [hw]
  rw [WS_seq, WS_set]
  simp [-Bool.exists_bool, -WS_seq, -WS_if]
  refine s_at' (k := 2) n1 (by decide) ?_
  simp [fMod_ii (show (0 : Int) < 57 by decide), -Bool.exists_bool, -WS_seq, -WS_if, -List.getD_eq_getElem?_getD]
  generalize tape.getD 2 0 = x2
  obtain ⟨r, hr, hr1, hr4⟩ : ∃ r : Int, 4 + x2 % 57 = r ∧ 4 ≤ r ∧ r ≤ 60 := ⟨_, rfl, by omega, by omega⟩
  rw [hr]
  refine s_Layout get_new ⟨ht1, ht3⟩ ⟨hw1, hw4⟩ ⟨hr1, by omega⟩ ⟨rfl, ?_⟩
  rw [set_last]
  have g2 : Grow G1 (G1 ++ [Ob.ins 0 [.int t, .int w, .int r]]) := grow1
  have lay : Lay (G1 ++ [Ob.ins 0 [.int t, .int w, .int r]]) G1.length t w r := get_new
  generalize (G1 ++ [Ob.ins 0 [.int t, .int w, .int r]]) = G2 at g2 lay ⊢
  have n2 := n1.grow g2
  clear g1 g2 n1
  rw [WS_seq, WS_set]
  simp [-Bool.exists_bool, -WS_seq, -WS_if]
  refine s_at' (k := 3) n2 (by decide) ?_
  simp [fMod_ii (show (0 : Int) < t by omega), -Bool.exists_bool, -WS_seq, -WS_if, -List.getD_eq_getElem?_getD]
  have hg3 : tape.getD 3 0 = tape.getD 3 0 := rfl
  generalize hx3 : tape.getD 3 0 = x3 at hg3 ⊢
  clear hg3
  generalize x3 % t = th
  have er : getF [(0, 2)] (.obj G1.length) G2 = some (.int r) := getF_o lay
  have hrng : rng1 [.int r] = some (rangeL 0 r.toNat) := rng1_int (by omega) (by omega)
  rw [WS_seq, WS_set]
  refine W_lcR (f := fun v => match v with | .int i => decide (0 < (i * 7 + x3) % 5) | _ => false) (g := fun v => match v with | .int i => .int (1 + 2 * t + w + i) | _ => .non) ?_
  simp [er, hrng, -Bool.exists_bool, -WS_seq, -WS_if]
  refine ⟨by rw [rangeL_len]; exact small_ok (by omega), fun v hv acc => ?_, ?_⟩
  · obtain ⟨c, rfl⟩ := rangeL_int hv
    refine ⟨_, rfl, ?_, ?_⟩
    · simp [wipe1, fMul_r (show inRng 7 = true by decide), -Bool.exists_bool, -List.getD_eq_getElem?_getD]
      refine s_at' (k := 3) (n2.grow grow1) (by decide) ?_
      simp [hx3, fMod_ii (show (0 : Int) < 5 by decide), -Bool.exists_bool, -List.getD_eq_getElem?_getD]
    · intro _
      simp [wipe1, clsOf_o (lay.grow grow1), -Bool.exists_bool]
      exact s_record (lay.grow grow1) ⟨rfl, rfl⟩
  rw [rec_filter _ _ _ _ (fun i => decide (0 < (i * 7 + x3) % 5)) (1 + 2 * t + w) (fun i => rfl) (fun i => rfl)]
  have hsl : ((((List.range r.toNat).map fun (j : Nat) => (0 : Int) + (j : Int)).filter (fun i => decide (0 < (i * 7 + x3) % 5))).map fun i => 1 + 2 * t + w + i).length ≤ 60 := by
    rw [List.length_map]
    refine Nat.le_trans (List.length_filter_le _ _) ?_
    rw [List.length_map, List.length_range]
    omega
  generalize ((((List.range r.toNat).map fun (j : Nat) => (0 : Int) + (j : Int)).filter (fun i => decide (0 < (i * 7 + x3) % 5))).map fun i => 1 + 2 * t + w + i) = some_ at hsl ⊢
  have g3 : Grow G2 (G2 ++ [Ob.lst (some_.map Val.int)]) := grow1
  have n3 : IL (G2 ++ [Ob.lst (some_.map Val.int)]) G2.length some_ := get_new
  generalize (G2 ++ [Ob.lst (some_.map Val.int)]) = G3 at g3 n3 ⊢
  have lay3 := lay.grow g3
  have t3 := n2.grow g3
  rw [WS_seq]
  simp [-Bool.exists_bool, -WS_seq]
  refine s_ldiv lay3 (by omega) ht3 n3 (by omega) fun G4 g4 => ?_
  have lay4 := lay3.grow g4
  have t4 := t3.grow g4
  simp [truth, -Bool.exists_bool, -WS_seq]
  rw [WS_seq, WS_set]
  simp only [W_callF, W_aCons, W_aNil, W_var]
  refine ⟨_, rfl, ?_⟩
  have er4 : getF [(0, 2)] (.obj G1.length) G4 = some (.int r) := getF_o lay4
  have hrng2 : rng2 [.int w, .int r] = some (rangeL w (r - w).toNat) := rng2_int ⟨by omega, by omega⟩ ⟨by omega, by omega⟩
  refine W_lcR (f := fun _ => true) (g := fun v => match v with | .int i => .int (1 + 2 * t + w + i) | _ => .non) ?_
  simp [er4, hrng2, -Bool.exists_bool, -WS_seq, -WS_if]
  refine ⟨by rw [rangeL_len]; exact small_ok (by omega), fun v hv acc => ?_, ?_⟩
  · obtain ⟨c, rfl⟩ := rangeL_int hv
    refine ⟨_, rfl, ?_, ?_⟩
    · simp [tTrue]
    · intro _
      simp [wipe1, clsOf_o (lay4.grow grow1), -Bool.exists_bool]
      exact s_record (lay4.grow grow1) ⟨rfl, rfl⟩
  have e5 : (((List.range (r - w).toNat).map fun (j : Nat) => w + (j : Int)).filter (fun _ => true)).map (fun i => 1 + 2 * t + w + i) = (List.range (r - w).toNat).map fun (j : Nat) => 1 + 2 * t + w + (w + (j : Int)) := by
    rw [List.filter_eq_self.mpr fun _ _ => rfl, List.map_map]
    rfl
  have hn5 := rec_nodup (1 + 2 * t + w) w (r - w).toNat
  have hl5 : ((List.range (r - w).toNat).map fun (j : Nat) => 1 + 2 * t + w + (w + (j : Int))).length ≤ 60 := by
    rw [List.length_map, List.length_range]
    omega
  rw [rec_filter _ _ _ _ (fun _ => true) (1 + 2 * t + w) (fun i => rfl) (fun i => rfl), e5]
  generalize ((List.range (r - w).toNat).map fun (j : Nat) => 1 + 2 * t + w + (w + (j : Int))) = recs at hn5 hl5 ⊢
  have g5 : Grow G4 (G4 ++ [Ob.lst (recs.map Val.int)]) := grow1
  have n5 : IL (G4 ++ [Ob.lst (recs.map Val.int)]) G4.length recs := get_new
  generalize (G4 ++ [Ob.lst (recs.map Val.int)]) = G5 at g5 n5 ⊢
  have lay5 := lay4.grow g5
  have t5 := t4.grow g5
  refine s_divided lay5 (by omega) n5 (by omega) fun G6 k6 g6 l6 n6 => ?_
  have t6 := t5.grow g6
  have hn6 : (part t w th recs).Nodup := by
    unfold part
    exact (sortI_perm _).nodup_iff.mpr (hn5.filter _)
  have hl6 : (part t w th recs).length ≤ 60 := by
    unfold part
    exact Nat.le_trans (part_len _ _) hl5
  have hs6 : sortI (part t w th recs) = part t w th recs := by
    unfold part
    exact sortI_idem _
  generalize part t w th recs = cells at n6 hn6 hl6 hs6
  rw [WS_seq, WS_set]
  simp [-Bool.exists_bool, -WS_seq, -WS_if]
  refine w_listI n6 fun G7 k7 g7 l7 n7 => ?_
  have t7 := t6.grow g7
  have n6' := n6.grow g7
  rw [WS_seq, WS_set]
  simp [-Bool.exists_bool, -WS_seq, -WS_if]
  refine s_Store get_new (n7.grow grow1) fun G8 f8 b8 => ⟨rfl, ?_⟩
  have lk7 := lt_of_get n7
  have lk6 := lt_of_get n6'
  have ljt := lt_of_get t7
  have m7 := b8.il (by omega) (n7.grow grow1)
  have m6 := b8.il (by omega) (n6'.grow grow1)
  have t8 := b8.il (by omega) (t7.grow grow1)
  have lk67 : k6 ≠ k7 := by
    have := lt_of_get n6
    omega
  have ltk : jt ≠ k7 := by
    have := lt_of_get t6
    omega
  rw [WS_seq]
  simp [-Bool.exists_bool, -WS_seq, -WS_if]
  refine ⟨isLst_o m7, w_push0 m7 (by simp; omega) fun G9 n9 b9 => ?_⟩
  have st9 := f8 G9 b9
  have t9 := b9.il ltk t8
  have c9 := b9.il lk67 m6
  clear f8 b8 b9 m7 m6 t8 n9
  rw [WS_seq, WS_set]
  simp [-Bool.exists_bool, -WS_seq, -WS_if]
  have g10 : Grow G9 (G9 ++ [Ob.lst []]) := grow1
  have n10 : IL (G9 ++ [Ob.lst []]) G9.length [] := get_new
  generalize (G9 ++ [Ob.lst []]) = G10 at g10 n10 ⊢
  rw [WS_seq, WS_set]
  simp [-Bool.exists_bool, -WS_seq, -WS_if]
  have g11 : Grow G10 (G10 ++ [Ob.lst []]) := grow1
  have n11 : IL (G10 ++ [Ob.lst []]) G10.length [] := get_new
  generalize (G10 ++ [Ob.lst []]) = G11 at g11 n11 ⊢
  have g911 := g10.trans g11
  have st11 := st9.grow g911
  have t11 := t9.grow g911
  have c11 := c9.grow g911
  have n10' := n10.grow g11
  have eth : getF [(5, 1)] (.obj G7.length) G11 = some (.int th) := by
    obtain ⟨a, b, c, h1, _⟩ := st11.ex
    exact getF_o h1
  rw [WS_seq]
  simp [eth, -Bool.exists_bool, -WS_seq]
  refine s_same st11 c11 n11 rfl (by rw [sortI_len]; omega) fun G12 g12 => ?_
  have st12 := st11.grow g12
  have t12 := t11.grow g12
  have c12 := c11.grow g12
  have k12 := n10'.grow g12
  have o12 := n11.grow g12
  simp [truth, -Bool.exists_bool, -WS_seq]
  rw [WS_seq, WS_forR]
  have ht12 : bLen [.obj jt] G12 = .ok (.int tape.length) G12 := by
    rw [bLen_o t12]
    simp
  simp [ht12, fDiv_ii (show (0 : Int) < 2 by decide) (show (2 : Int) < 1073741824 by decide), -Bool.exists_bool]
  refine ⟨_, rng1_int ?_ ?_, for_rng (fun _ => IM tape) (fun n _ ρ G h => step_ok n h) (fun _ _ _ => trivial) ?_⟩
  · split <;> split <;> omega
  · split <;> split <;> omega
  · exact ⟨_, jt, _, _, _, G1.length, _, _, k6, _, G7.length, _, _, _, _, _, _, _, _, _, _, _, th, cells, [], [], rfl, t12, c12, k12, o12, st12, by simpa using hn6, by simp; omega⟩
theorem mirror_holds (ns : List Int) (hn : ns.length ≤ 63) : ∃ G, m_law [.fro (ns.map Val.int)] [] = .ok (.bl true) G := fin_of (m := m_law) (mirror_W ns hn)
end Dk

namespace Dk
open PySem PySem.Spec PyProof.Rows L2 R1
def top (i : Nat) : Stmt := PySem.Challenge.pw_driftkept_k07_stores.main.body.getD i (.Pass ⟨0, 0, 0, 0⟩)
def d_Store_free_cells : He.DefD := ⟨(("Store" : Str), some ("free_cells" : Str)), ("free_cells" : Str), ("Store.free_cells" : Str), defArgs (inClass (top 3) 4), defBody (inClass (top 3) 4), defScope (inClass (top 3) 4), [], []⟩
def d_Store_waiting : He.DefD := ⟨(("Store" : Str), some ("waiting" : Str)), ("waiting" : Str), ("Store.waiting" : Str), defArgs (inClass (top 3) 5), defBody (inClass (top 3) 5), defScope (inClass (top 3) 5), [], []⟩
def d__law_same : He.DefD := ⟨(("_law_same" : Str), none), ("_law_same" : Str), ("_law_same" : Str), defArgs (top 17), defBody (top 17), defScope (top 17), [], []⟩
def d_Store_take : He.DefD := ⟨(("Store" : Str), some ("take" : Str)), ("take" : Str), ("Store.take" : Str), defArgs (inClass (top 3) 1), defBody (inClass (top 3) 1), defScope (inClass (top 3) 1), [], []⟩
def d_Store_give_back : He.DefD := ⟨(("Store" : Str), some ("give_back" : Str)), ("give_back" : Str), ("Store.give_back" : Str), defArgs (inClass (top 3) 2), defBody (inClass (top 3) 2), defScope (inClass (top 3) 2), [], []⟩
def d_Store_take_out : He.DefD := ⟨(("Store" : Str), some ("take_out" : Str)), ("take_out" : Str), ("Store.take_out" : Str), defArgs (inClass (top 3) 3), defBody (inClass (top 3) 3), defScope (inClass (top 3) 3), [], []⟩
def d__law_at : He.DefD := ⟨(("_law_at" : Str), none), ("_law_at" : Str), ("_law_at" : Str), defArgs (top 16), defBody (top 16), defScope (top 16), [], []⟩
def d_Store_init : He.DefD := ⟨(("Store" : Str), some ("__init__" : Str)), ("__init__" : Str), ("Store.__init__" : Str), defArgs (inClass (top 3) 0), defBody (inClass (top 3) 0), defScope (inClass (top 3) 0), [], []⟩
def d_Layout_record : He.DefD := ⟨(("Layout" : Str), some ("record" : Str)), ("record" : Str), ("Layout.record" : Str), defArgs (inClass (top 13) 5), defBody (inClass (top 13) 5), defScope (inClass (top 13) 5), [], []⟩
def d_divided : He.DefD := ⟨(("divided" : Str), none), ("divided" : Str), ("divided" : Str), defArgs (top 2), defBody (top 2), defScope (top 2), [], []⟩
def d__law_divided : He.DefD := ⟨(("_law_divided" : Str), none), ("_law_divided" : Str), ("_law_divided" : Str), defArgs (top 18), defBody (top 18), defScope (top 18), [], []⟩
def d_is_within : He.DefD := ⟨(("is_within" : Str), none), ("is_within" : Str), ("is_within" : Str), defArgs (top 12), defBody (top 12), defScope (top 12), [], []⟩
def d_Layout_init : He.DefD := ⟨(("Layout" : Str), some ("__init__" : Str)), ("__init__" : Str), ("Layout.__init__" : Str), defArgs (inClass (top 13) 0), defBody (inClass (top 13) 0), defScope (inClass (top 13) 0), [], []⟩
def d__law_tape : He.DefD := ⟨(("_law_tape" : Str), none), ("_law_tape" : Str), ("_law_tape" : Str), defArgs (top 15), defBody (top 15), defScope (top 15), [], []⟩
def d_law : He.DefD := ⟨(("law" : Str), none), ("law" : Str), ("law" : Str), defArgs (top 19), defBody (top 19), defScope (top 19), [], []⟩
def fn0 : List He.DefD := [d_Store_free_cells, d_Store_waiting, d__law_same, d_Store_take, d_Store_give_back, d_Store_take_out, d__law_at, d_Store_init, d_Layout_record, d_divided, d__law_divided, d_is_within, d_Layout_init, d__law_tape, d_law]
def fn : List He.DefD := fn0
def fa0 : List He.Fa := [.free ("list" : Str), .cls ("Store" : Str), .noat ("Store" : Str) ("layout" : Str), .noat ("Store" : Str) ("thread" : Str), .noat ("Store" : Str) ("spare" : Str), .noat ("Store" : Str) ("taken_out" : Str), .noat ("Store" : Str) ("delayed" : Str), .meth ("Store" : Str) ("free_cells" : Str), .free ("sorted" : Str), .meth ("Store" : Str) ("waiting" : Str), .free ("len" : Str), .free ("isinstance" : Str), .glo ("_law_same" : Str), .meth ("Store" : Str) ("take" : Str), .meth ("Store" : Str) ("give_back" : Str), .meth ("Store" : Str) ("take_out" : Str), .glo ("_law_at" : Str), .free ("max" : Str), .free ("min" : Str), .free ("range" : Str), .mkr ("Store" : Str), .glo ("Store" : Str), .cls ("Layout" : Str), .noat ("Layout" : Str) ("threads" : Str), .noat ("Layout" : Str) ("words" : Str), .noat ("Layout" : Str) ("records" : Str), .meth ("Layout" : Str) ("record" : Str), .glo ("divided" : Str), .glo ("_law_divided" : Str), .free ("bool" : Str), .free ("int" : Str), .glo ("is_within" : Str), .int ("MOST_RECORDS" : Str) (200), .int ("LEAST_RECORDS" : Str) (4), .int ("MOST_WORDS" : Str) (4)]
def fa1 : List He.Fa := [.int ("MOST_THREADS" : Str) (3), .mkr ("Layout" : Str), .glo ("Layout" : Str), .free ("abs" : Str), .glo ("_law_tape" : Str), .glo ("law" : Str)]
def fa : List He.Fa := fa0 ++ fa1
def loose0 : List Str := ["_wall", "__name__", "divided", "Store", "LineError", "NotValid", "MOST_THREADS", "MOST_WORDS", "LEAST_RECORDS", "MOST_RECORDS", "is_within", "Layout", "_law_tape", "_law_at", "_law_same", "_law_divided"]
def loose : List Str := loose0
abbrev R : PySem.W.OpenRow := PySem.W.OpenLaw.row PySem.Challenge.rw_driftkept_k07_stores
abbrev hk : PySem.W.Hook := He.hookD 6 fa fn
def ob (s : PySem.W.SharedT) : He.AlD := He.obsDG 6 fa fn (HandSHeadRun.getT s)
theorem ob_eq (s : PySem.W.SharedT) : ob s = hk.obs s.abs := He.obsDG_eq (HandSHeadRun.getT_eq s)
section
variable {P : Program} {w : World} {K : PySem.W.Frag} {mg : Str → Option Value} {base : Heap}
theorem sc_Store_free_cells : FnScope ["self"] ["self"] (defScope (inClass (top 3) 4)) := ⟨rfl, rfl, rfl, by decide +kernel, rfl, by decide +kernel, by decide +kernel⟩
theorem g_Store_free_cells (T : Txt fa fn K mg) : MF P w K mg base CX0 1 5 "free_cells" 1 m_Store_free_cells [] :=
  mf0 (params := defArgs (inClass (top 3) 4)) (body := defBody (inClass (top 3) 4)) (scope := defScope (inClass (top 3) 4)) (m := "free_cells") (q := "Store.free_cells") T 0 7 1 5 sc_Store_free_cells (b := b_Store_free_cells) (fun f cdv A outer s H E hr => (rs_one (rs_ret (re_callTy call_list_of s_list rfl (T.free 0) (by decide +kernel) (ra_cons (re_fld (rv 0) (plOk_by (by decide +kernel))) ra_nil))))) (fun _ _ _ _ _ _ us hl => match us, hl with | [_], _ => rfl)
theorem sc_Store_waiting : FnScope ["self", "rows", "stamp", "cells"] ["self"] (defScope (inClass (top 3) 5)) := ⟨rfl, rfl, rfl, by decide +kernel, rfl, by decide +kernel, by decide +kernel⟩
theorem g_Store_waiting (T : Txt fa fn K mg) : MF P w K mg base CX0 1 5 "waiting" 1 m_Store_waiting [] :=
  mf0 (params := defArgs (inClass (top 3) 5)) (body := defBody (inClass (top 3) 5)) (scope := defScope (inClass (top 3) 5)) (m := "waiting") (q := "Store.waiting") T 1 9 1 5 sc_Store_waiting (b := b_Store_waiting) (fun f cdv A outer s H E hr => (rs_cons (rs_setLcA (i := 1) (by rfl) sc_Store_waiting.nd (by rfl) (by rfl) (sw_true (by rfl) (by rfl) (by rfl) (by decide +kernel)) (re_fld (rv 0) (plOk_by (by decide +kernel))) (blkOk_by (own := [("stamp", 2), ("cells", 3)]) (by show blkC ["self", "rows", "stamp", "cells"] (defScope (inClass (top 3) 5)) _ _ = true; decide +kernel)) (by decide) (fun _ _ _ _ _ => (rg_tup rfl (rgc 2 sc_Store_waiting.nd (rgc 3 sc_Store_waiting.nd rgs_nil)))) (fun _ _ _ _ _ => rts_nil) (fun _ _ _ _ _ => (re_tup (ra_cons (rv 2) (ra_cons (re_callTy call_list_of s_list rfl (T.free 0) (by decide +kernel) (ra_cons (rv 3) ra_nil)) ra_nil)))))
  (rs_cons (rs_if (rt_truth (re_fld (rv 0) (plOk_by (by decide +kernel)))) (rs_one (rs_ex (re_app (rv 1) (re_tup (ra_cons re_non (ra_cons (re_callTy call_list_of s_list rfl (T.free 0) (by decide +kernel) (ra_cons (re_fld (rv 0) (plOk_by (by decide +kernel))) ra_nil)) ra_nil)))))) rs_nil)
  (rs_one (rs_ret (rv 1)))))) (fun _ _ _ _ _ _ us hl => match us, hl with | [_], _ => rfl)
theorem sc__law_same : FnScope ["_law_store", "_law_cells", "_law_out", "_law_told", "_law_due"] ["_law_store", "_law_cells", "_law_out"] (defScope (top 17)) := ⟨rfl, rfl, rfl, by decide +kernel, rfl, by decide +kernel, by decide +kernel⟩
theorem g__law_same (T : Txt fa fn K mg) : GF P w K mg base CX0 2 "_law_same" 3 m__law_same [] :=
  gf0 (params := defArgs (top 17)) (body := defBody (top 17)) (scope := defScope (top 17)) (x := "_law_same") T 2 12 sc__law_same (b := b__law_same) (fun f cdv A outer s H E hr => (rs_cons (rst 3 sc__law_same.nd (re_meth0 (rv 0) (g_Store_free_cells T) runDef_ar (hr.mono (by decide)) passE))
  (rs_cons (rs_if (rt_bool (rw_or (rt_not (rt_truth (re_isi (T := "list") (by decide) rfl (T.free 11) (pty T 0 (by decide +kernel)) (rv 3)))) (rw_or1 (rt_ne hr.units (rv 3) (re_callB cr_sortedI s_sortL rfl (T.free 8) (by decide +kernel) (ra_cons (rv 1) ra_nil)))))) (rs_one (rs_ret re_bl)) rs_nil)
  (rs_cons (rs_ex (re_app (rv 3) re_int))
  (rs_cons (rst 4 sc__law_same.nd (re_lst ra_nil))
  (rs_cons (rs_if (rt_gt (re_callB call_len s_len rfl (T.free 10) (by decide +kernel) (ra_cons (rv 2) ra_nil)) re_int) (rs_one (rst 4 sc__law_same.nd (re_lst (ra_cons (re_tup (ra_cons re_non (ra_cons (re_callTy call_list_of s_list rfl (T.free 0) (by decide +kernel) (ra_cons (rv 2) ra_nil)) ra_nil))) ra_nil)))) rs_nil)
  (rs_one (rs_ret (re_and (re_eq hr.units (re_meth0 (rv 0) (g_Store_waiting T) runDef_ar (hr.mono (by decide)) passE) (rv 4)) (re_one (re_eq hr.units (re_meth0 (rv 0) (g_Store_free_cells T) runDef_ar (hr.mono (by decide)) passE) (re_callB cr_sortedI s_sortL rfl (T.free 8) (by decide +kernel) (ra_cons (rv 1) ra_nil))))))))))))) (fun _ _ _ _ _ _ us hl => match us, hl with | [_, _, _], _ => rfl)
theorem sc_Store_take : FnScope ["self", "many", "taken"] ["self", "many"] (defScope (inClass (top 3) 1)) := ⟨rfl, rfl, rfl, by decide +kernel, rfl, by decide +kernel, by decide +kernel⟩
theorem g_Store_take (T : Txt fa fn K mg) : MF P w K mg base CX0 1 5 "take" 2 m_Store_take [] :=
  mf0 (params := defArgs (inClass (top 3) 1)) (body := defBody (inClass (top 3) 1)) (scope := defScope (inClass (top 3) 1)) (m := "take") (q := "Store.take") T 3 13 1 5 sc_Store_take (b := b_Store_take) (fun f cdv A outer s H E hr => (rs_cons (rs_if (rt_gt (rv 1) (re_callB call_len s_len rfl (T.free 10) (by decide +kernel) (ra_cons (re_fld (rv 0) (plOk_by (by decide +kernel))) ra_nil))) (rs_one (rs_ret re_non)) rs_nil)
  (rs_cons (rst 2 sc_Store_take.nd (re_sl (re_fld (rv 0) (plOk_by (by decide +kernel))) ro_none (ro_some (rv 1))))
  (rs_cons (rs_fld (by decide +kernel) (rv 0) (re_sl (re_fld (rv 0) (plOk_by (by decide +kernel))) (ro_some (rv 1)) ro_none))
  (rs_one (rs_ret (rv 2))))))) (fun _ _ _ _ _ _ us hl => match us, hl with | [_, _], _ => rfl)
theorem sc_Store_give_back : FnScope ["self", "cells"] ["self", "cells"] (defScope (inClass (top 3) 2)) := ⟨rfl, rfl, rfl, by decide +kernel, rfl, by decide +kernel, by decide +kernel⟩
theorem g_Store_give_back (T : Txt fa fn K mg) : MF P w K mg base CX0 1 5 "give_back" 2 m_Store_give_back [] :=
  mf0 (params := defArgs (inClass (top 3) 2)) (body := defBody (inClass (top 3) 2)) (scope := defScope (inClass (top 3) 2)) (m := "give_back") (q := "Store.give_back") T 4 14 1 5 sc_Store_give_back (b := b_Store_give_back) (fun f cdv A outer s H E hr => (rs_one (rs_fld (by decide +kernel) (rv 0) (re_callB cr_sortedI s_sortL rfl (T.free 8) (by decide +kernel) (ra_cons (re_add (re_fld (rv 0) (plOk_by (by decide +kernel))) (re_callTy call_list_of s_list rfl (T.free 0) (by decide +kernel) (ra_cons (rv 1) ra_nil))) ra_nil))))) (fun _ _ _ _ _ _ us hl => match us, hl with | [_, _], _ => rfl)
theorem sc_Store_take_out : FnScope ["self", "cells"] ["self", "cells"] (defScope (inClass (top 3) 3)) := ⟨rfl, rfl, rfl, by decide +kernel, rfl, by decide +kernel, by decide +kernel⟩
theorem g_Store_take_out (T : Txt fa fn K mg) : MF P w K mg base CX0 1 5 "take_out" 2 m_Store_take_out [] :=
  mf0 (params := defArgs (inClass (top 3) 3)) (body := defBody (inClass (top 3) 3)) (scope := defScope (inClass (top 3) 3)) (m := "take_out") (q := "Store.take_out") T 5 15 1 5 sc_Store_take_out (b := b_Store_take_out) (fun f cdv A outer s H E hr => (rs_one (rs_fld (by decide +kernel) (rv 0) (re_add (re_fld (rv 0) (plOk_by (by decide +kernel))) (re_callTy call_list_of s_list rfl (T.free 0) (by decide +kernel) (ra_cons (rv 1) ra_nil)))))) (fun _ _ _ _ _ _ us hl => match us, hl with | [_, _], _ => rfl)
theorem sc__law_at : FnScope ["_law_tape_here", "_law_k"] ["_law_tape_here", "_law_k"] (defScope (top 16)) := ⟨rfl, rfl, rfl, by decide +kernel, rfl, by decide +kernel, by decide +kernel⟩
theorem g__law_at (T : Txt fa fn K mg) : GF P w K mg base CX0 1 "_law_at" 2 m__law_at [] :=
  gf0 (params := defArgs (top 16)) (body := defBody (top 16)) (scope := defScope (top 16)) (x := "_law_at") T 6 16 sc__law_at (b := b__law_at) (fun f cdv A outer s H E hr => (rs_cons (rs_if (rt_lt (rv 1) (re_callB call_len s_len rfl (T.free 10) (by decide +kernel) (ra_cons (rv 0) ra_nil))) (rs_one (rs_ret (re_ix (rv 0) (rv 1)))) rs_nil)
  (rs_one (rs_ret re_int)))) (fun _ _ _ _ _ _ us hl => match us, hl with | [_, _], _ => rfl)
theorem sc_Store_init : FnScope ["self", "layout", "thread", "cells"] ["self", "layout", "thread", "cells"] (defScope (inClass (top 3) 0)) := ⟨rfl, rfl, rfl, by decide +kernel, rfl, by decide +kernel, by decide +kernel⟩
theorem g_Store_init (T : Txt fa fn K mg) : CF P w K mg base CX0 1 5 4 m_Store_init [] :=
  cf0 (params := defArgs (inClass (top 3) 0)) (body := defBody (inClass (top 3) 0)) (scope := defScope (inClass (top 3) 0)) (q := "Store.__init__") T 7 20 21 5 (T.clsOk 5 1 2) sc_Store_init (b := b_Store_init) (fun f cdv A outer s H E hr => (rs_cons (rs_fld (by decide +kernel) (rv 0) (rv 1))
  (rs_cons (rs_fld (by decide +kernel) (rv 0) (rv 2))
  (rs_cons (rs_fld (by decide +kernel) (rv 0) (re_callB cr_sortedI s_sortL rfl (T.free 8) (by decide +kernel) (ra_cons (rv 3) ra_nil)))
  (rs_cons (rs_fld (by decide +kernel) (rv 0) (re_lst ra_nil))
  (rs_one (rs_fld (by decide +kernel) (rv 0) (re_lst ra_nil)))))))) (fun _ _ _ _ _ _ us hl => match us, hl with | [_, _, _, _], _ => rfl)
theorem sc_Layout_record : FnScope ["self", "index"] ["self", "index"] (defScope (inClass (top 13) 5)) := ⟨rfl, rfl, rfl, by decide +kernel, rfl, by decide +kernel, by decide +kernel⟩
theorem g_Layout_record (T : Txt fa fn K mg) : MF P w K mg base CX0 1 0 "record" 2 m_Layout_record [] :=
  mf0 (params := defArgs (inClass (top 13) 5)) (body := defBody (inClass (top 13) 5)) (scope := defScope (inClass (top 13) 5)) (m := "record") (q := "Layout.record") T 8 26 22 0 sc_Layout_record (b := b_Layout_record) (fun f cdv A outer s H E hr => (rs_one (rs_ret (re_add (re_add (re_add re_int (re_mul re_int (re_fld (rv 0) (plOk_by (by decide +kernel))))) (re_fld (rv 0) (plOk_by (by decide +kernel)))) (rv 1))))) (fun _ _ _ _ _ _ us hl => match us, hl with | [_, _], _ => rfl)
theorem sc_divided : FnScope ["layout", "cells", "thread", "cell"] ["layout", "cells", "thread"] (defScope (top 2)) := ⟨rfl, rfl, rfl, by decide +kernel, rfl, by decide +kernel, by decide +kernel⟩
theorem g_divided (T : Txt fa fn K mg) : GF P w K mg base CX0 2 "divided" 3 m_divided [] :=
  gf0 (params := defArgs (top 2)) (body := defBody (top 2)) (scope := defScope (top 2)) (x := "divided") T 9 27 sc_divided (b := b_divided) (fun f cdv A outer s H E hr => (rs_one (rs_ret (re_callB cr_sortedI s_sortL rfl (T.free 8) (by decide +kernel) (ra_cons (re_lcA (by rfl) sc_divided.nd (rv 1) (blkOk_by (own := [("cell", 3)]) (by show blkC ["layout", "cells", "thread", "cell"] (defScope (top 2)) _ _ = true; decide +kernel)) (by decide) (fun _ _ _ _ _ => (rgn 3 sc_divided.nd)) (fun _ _ _ _ _ => (rts_one (rt_eq hr.units (re_mod (re_sub (rv 3) (re_meth (rv 0) (g_Layout_record T) runDef_ar (hr.mono (by decide)) passE (ra_cons re_int ra_nil))) (re_fld (rv 0) (plOk_by (by decide +kernel)))) (rv 2)))) (fun _ _ _ _ _ => (rv 3))) ra_nil))))) (fun _ _ _ _ _ _ us hl => match us, hl with | [_, _, _], _ => rfl)
theorem sc__law_divided : FnScope ["_law_layout", "_law_cells", "_law_threads", "_law_found", "_law_thread", "_law_part", "_law_due", "_law_cell"] ["_law_layout", "_law_cells", "_law_threads"] (defScope (top 18)) := ⟨rfl, rfl, rfl, by decide +kernel, rfl, by decide +kernel, by decide +kernel⟩
theorem g__law_divided (T : Txt fa fn K mg) : GF P w K mg base CX0 3 "_law_divided" 3 m__law_divided [] :=
  gf0 (params := defArgs (top 18)) (body := defBody (top 18)) (scope := defScope (top 18)) (x := "_law_divided") T 10 28 sc__law_divided (b := b__law_divided) (fun f cdv A outer s H E hr => (rs_cons (rst 3 sc__law_divided.nd (re_lst ra_nil))
  (rs_cons (rs_forR1 PassesOwn.never rfl rfl (T.free 19) (ra_cons (rv 2) ra_nil) (rgn 4 sc__law_divided.nd) (rs_cons (rst 5 sc__law_divided.nd (re_call (g_divided T) runDef_ar (hr.mono (by decide)) rfl passE (ra_cons (rv 0) (ra_cons (re_callTy call_list_of s_list rfl (T.free 0) (by decide +kernel) (ra_cons (rv 1) ra_nil)) (ra_cons (rv 4) ra_nil)))))
  (rs_cons (rst 6 sc__law_divided.nd (re_callB cr_sortedI s_sortL rfl (T.free 8) (by decide +kernel) (ra_cons (re_lcA (by rfl) sc__law_divided.nd (rv 1) (blkOk_by (own := [("_law_cell", 7)]) (by show blkC ["_law_layout", "_law_cells", "_law_threads", "_law_found", "_law_thread", "_law_part", "_law_due", "_law_cell"] (defScope (top 18)) _ _ = true; decide +kernel)) (by decide) (fun _ _ _ _ _ => (rgn 7 sc__law_divided.nd)) (fun _ _ _ _ _ => (rts_one (rt_eq hr.units (re_mod (re_sub (rv 7) (re_meth (rv 0) (g_Layout_record T) runDef_ar (hr.mono (by decide)) passE (ra_cons re_int ra_nil))) (rv 2)) (rv 4)))) (fun _ _ _ _ _ => (rv 7))) ra_nil)))
  (rs_cons (rs_if (rt_ne hr.units (rv 5) (rv 6)) (rs_one (rs_ret re_bl)) rs_nil)
  (rs_one (rst 3 sc__law_divided.nd (re_add (rv 3) (rv 5))))))))
  (rs_one (rs_ret (re_eq hr.units (re_callB cr_sortedI s_sortL rfl (T.free 8) (by decide +kernel) (ra_cons (rv 3) ra_nil)) (re_callB cr_sortedI s_sortL rfl (T.free 8) (by decide +kernel) (ra_cons (rv 1) ra_nil)))))))) (fun _ _ _ _ _ _ us hl => match us, hl with | [_, _, _], _ => rfl)
theorem sc_is_within : FnScope ["value", "low", "high"] ["value", "low", "high"] (defScope (top 12)) := ⟨rfl, rfl, rfl, by decide +kernel, rfl, by decide +kernel, by decide +kernel⟩
theorem g_is_within (T : Txt fa fn K mg) : GF P w K mg base CX0 1 "is_within" 3 m_is_within [] :=
  gf0 (params := defArgs (top 12)) (body := defBody (top 12)) (scope := defScope (top 12)) (x := "is_within") T 11 31 sc_is_within (b := b_is_within) (fun f cdv A outer s H E hr => (rs_one (rs_ret (re_and (re_isi (T := "int") (by decide) rfl (T.free 11) (pty T 30 (by decide +kernel)) (rv 0)) (re_and (re_not (re_isi (T := "bool") (by decide) rfl (T.free 11) (pty T 29 (by decide +kernel)) (rv 0))) (re_one (re_chain op_le op_le s_le s_le (rv 1) (rv 0) (rv 2)))))))) (fun _ _ _ _ _ _ us hl => match us, hl with | [_, _, _], _ => rfl)
theorem sc_Layout_init : FnScope ["self", "threads", "words", "records"] ["self", "threads", "words", "records"] (defScope (inClass (top 13) 0)) := ⟨rfl, rfl, rfl, by decide +kernel, rfl, by decide +kernel, by decide +kernel⟩
theorem g_Layout_init (T : Txt fa fn K mg) : CF P w K mg base CX0 2 0 4 m_Layout_init [] :=
  cf0 (params := defArgs (inClass (top 13) 0)) (body := defBody (inClass (top 13) 0)) (scope := defScope (inClass (top 13) 0)) (q := "Layout.__init__") T 12 36 37 0 (T.clsOk 0 22 23) sc_Layout_init (b := b_Layout_init) (fun f cdv A outer s H E hr => (rs_cons (rs_if (rt_bool (rw_or (rt_not (rt_truth (re_call (g_is_within T) runDef_ar (hr.mono (by decide)) rfl passE (ra_cons (rv 1) (ra_cons re_int (ra_cons (rgi T 35) ra_nil)))))) (rw_or1 (rt_not (rt_truth (re_call (g_is_within T) runDef_ar (hr.mono (by decide)) rfl passE (ra_cons (rv 2) (ra_cons re_int (ra_cons (rgi T 34) ra_nil))))))))) (rs_one rs_never) rs_nil)
  (rs_cons (rs_if (rt_not (rt_truth (re_call (g_is_within T) runDef_ar (hr.mono (by decide)) rfl passE (ra_cons (rv 3) (ra_cons (rgi T 33) (ra_cons (rgi T 32) ra_nil)))))) (rs_one rs_never) rs_nil)
  (rs_cons (rs_fld (by decide +kernel) (rv 0) (rv 1))
  (rs_cons (rs_fld (by decide +kernel) (rv 0) (rv 2))
  (rs_one (rs_fld (by decide +kernel) (rv 0) (rv 3)))))))) (fun _ _ _ _ _ _ us hl => match us, hl with | [_, _, _, _], _ => rfl)
theorem sc__law_tape : FnScope ["_law_script", "_law_tape_here", "_law_k", "_law_value", "_law_step"] ["_law_script"] (defScope (top 15)) := ⟨rfl, rfl, rfl, by decide +kernel, rfl, by decide +kernel, by decide +kernel⟩
theorem g__law_tape (T : Txt fa fn K mg) : GF P w K mg base CX0 1 "_law_tape" 1 m__law_tape [] :=
  gf0 (params := defArgs (top 15)) (body := defBody (top 15)) (scope := defScope (top 15)) (x := "_law_tape") T 13 39 sc__law_tape (b := b__law_tape) (fun f cdv A outer s H E hr => (rs_cons (rst 1 sc__law_tape.nd (re_lst ra_nil))
  (rs_cons (rs_forR1 PassesOwn.never rfl rfl (T.free 19) (ra_cons (re_callB call_len s_len rfl (T.free 10) (by decide +kernel) (ra_cons (rv 0) ra_nil)) ra_nil) (rgn 2 sc__law_tape.nd) (rs_cons (rst 3 sc__law_tape.nd (re_callB call_abs s_abs rfl (T.free 38) (by decide +kernel) (ra_cons (re_callTy call_int1 s_int rfl (T.free 30) (by decide +kernel) (ra_cons (re_ix (rv 0) (rv 2)) ra_nil)) ra_nil)))
  (rs_one (rs_if (rt_ge (rv 3) (re_pow re_int re_int)) (rs_one (rs_forR1 PassesOwn.never rfl rfl (T.free 19) (ra_cons re_int ra_nil) (rgn 4 sc__law_tape.nd) (rs_one (rs_if (rt_gt (rv 3) re_int) (rs_cons (rs_ex (re_app (rv 1) (re_mod (rv 3) re_int)))
  (rs_one (rst 3 sc__law_tape.nd (re_div (rv 3) re_int)))) rs_nil)))) (rs_one (rs_forR1 PassesOwn.never rfl rfl (T.free 19) (ra_cons re_int ra_nil) (rgn 4 sc__law_tape.nd) (rs_cons (rst 3 sc__law_tape.nd (re_mod (re_add (re_add (re_mul (rv 3) re_int) (re_mul re_int (re_add (rv 2) re_int))) (re_mul re_int (rv 4))) re_int))
  (rs_cons (rst 3 sc__law_tape.nd (re_mod (re_mul (rv 3) re_int) re_int))
  (rs_one (rs_ex (re_app (rv 1) (re_mod (re_div (rv 3) re_int) re_int))))))))))))
  (rs_one (rs_ret (rv 1)))))) (fun _ _ _ _ _ _ us hl => match us, hl with | [_], _ => rfl)
theorem sc_law : FnScope ["_law_script", "_law_tape_here", "_law_threads", "_law_words", "_law_layout", "_law_thread", "_law_some", "_law_cells", "_law_passed", "_law_store", "_law_taken", "_law_out", "_law_k", "_law_number", "_law_pick", "_law_count", "_law_told", "_law_due", "_law_back", "_law_gone", "_law_cell"] ["_law_script"] (defScope (top 19)) := ⟨rfl, rfl, rfl, by decide +kernel, rfl, by decide +kernel, by decide +kernel⟩
theorem ok_law (T : Txt fa fn K mg) {fd : FuncData} (F : FunD K "law" "law" (defArgs (top 19)) (defBody (top 19)) (defScope (top 19)) [] [] (He.ga K "law") fd) : FnOk P w K mg base CX0 4 (He.ga K "law") fd ["_law_script"] (spF K 1 m_law) :=
  fn_ok0 F sc_law (b := b_law) (fun cdv A outer s H E hr => (rs_cons (rst 1 sc_law.nd (re_call (g__law_tape T) runDef_ar (hr.mono (by decide)) rfl passE (ra_cons (rv 0) ra_nil)))
  (rs_cons (rst 2 sc_law.nd (re_add re_int (re_mod (re_call (g__law_at T) runDef_ar (hr.mono (by decide)) rfl passE (ra_cons (rv 1) (ra_cons re_int ra_nil))) re_int)))
  (rs_cons (rst 3 sc_law.nd (re_add re_int (re_mod (re_call (g__law_at T) runDef_ar (hr.mono (by decide)) rfl passE (ra_cons (rv 1) (ra_cons re_int ra_nil))) re_int)))
  (rs_cons (rst 4 sc_law.nd (re_make (g_Layout_init T) rfl runDef_ar (hr.mono (by decide)) rfl passE (ra_cons (rv 2) (ra_cons (rv 3) (ra_cons (re_add re_int (re_mod (re_call (g__law_at T) runDef_ar (hr.mono (by decide)) rfl passE (ra_cons (rv 1) (ra_cons re_int ra_nil))) re_int)) ra_nil)))))
  (rs_cons (rst 5 sc_law.nd (re_mod (re_call (g__law_at T) runDef_ar (hr.mono (by decide)) rfl passE (ra_cons (rv 1) (ra_cons re_int ra_nil))) (rv 2)))
  (rs_cons (rs_setLcR1 (i := 6) (by rfl) sc_law.nd (by rfl) (by rfl) (sw_true (by rfl) (by rfl) (by rfl) (by decide +kernel)) (by rfl) (by exact T.free 19) (ra_cons (re_fld (rv 4) (plOk_by (by decide +kernel))) ra_nil) (blkOk_by (own := [("_law_k", 12)]) (by show blkC ["_law_script", "_law_tape_here", "_law_threads", "_law_words", "_law_layout", "_law_thread", "_law_some", "_law_cells", "_law_passed", "_law_store", "_law_taken", "_law_out", "_law_k", "_law_number", "_law_pick", "_law_count", "_law_told", "_law_due", "_law_back", "_law_gone", "_law_cell"] (defScope (top 19)) _ _ = true; decide +kernel)) (by decide) (fun _ _ _ _ _ => (rgn 12 sc_law.nd)) (fun _ _ _ _ _ => (rts_one (rt_gt (re_mod (re_add (re_mul (rv 12) re_int) (re_call (g__law_at T) runDef_ar (hr.mono (by decide)) rfl passE (ra_cons (rv 1) (ra_cons re_int ra_nil)))) re_int) re_int))) (fun _ _ _ _ _ => (re_meth (rv 4) (g_Layout_record T) runDef_ar (hr.mono (by decide)) passE (ra_cons (rv 12) ra_nil))))
  (rs_cons (rs_if (rt_not (rt_truth (re_call (g__law_divided T) runDef_ar (hr.mono (by decide)) rfl passE (ra_cons (rv 4) (ra_cons (rv 6) (ra_cons (rv 2) ra_nil)))))) (rs_one (rs_ret re_bl)) rs_nil)
  (rs_cons (rst 7 sc_law.nd (re_call (g_divided T) runDef_ar (hr.mono (by decide)) rfl passE (ra_cons (rv 4) (ra_cons (re_lcR2 (by rfl) sc_law.nd (by rfl) (by exact T.free 19) (ra_cons (rv 3) (ra_cons (re_fld (rv 4) (plOk_by (by decide +kernel))) ra_nil)) (blkOk_by (own := [("_law_k", 12)]) (by show blkC ["_law_script", "_law_tape_here", "_law_threads", "_law_words", "_law_layout", "_law_thread", "_law_some", "_law_cells", "_law_passed", "_law_store", "_law_taken", "_law_out", "_law_k", "_law_number", "_law_pick", "_law_count", "_law_told", "_law_due", "_law_back", "_law_gone", "_law_cell"] (defScope (top 19)) _ _ = true; decide +kernel)) (by decide) (fun _ _ _ _ _ => (rgn 12 sc_law.nd)) (fun _ _ _ _ _ => rts_nil) (fun _ _ _ _ _ => (re_meth (rv 4) (g_Layout_record T) runDef_ar (hr.mono (by decide)) passE (ra_cons (rv 12) ra_nil)))) (ra_cons (rv 5) ra_nil)))))
  (rs_cons (rst 8 sc_law.nd (re_callTy call_list_of s_list rfl (T.free 0) (by decide +kernel) (ra_cons (rv 7) ra_nil)))
  (rs_cons (rst 9 sc_law.nd (re_make (g_Store_init T) rfl runDef_ar (hr.mono (by decide)) rfl passE (ra_cons (rv 4) (ra_cons (rv 5) (ra_cons (rv 8) ra_nil)))))
  (rs_cons (rs_ex (re_app (rv 8) re_int))
  (rs_cons (rst 10 sc_law.nd (re_lst ra_nil))
  (rs_cons (rst 11 sc_law.nd (re_lst ra_nil))
  (rs_cons (rs_if (rt_bool (rw_or (rt_ne hr.units (re_fld (rv 9) (plOk_by (by decide +kernel))) (rv 5)) (rw_or1 (rt_not (rt_truth (re_call (g__law_same T) runDef_ar (hr.mono (by decide)) rfl passE (ra_cons (rv 9) (ra_cons (rv 7) (ra_cons (rv 11) ra_nil))))))))) (rs_one (rs_ret re_bl)) rs_nil)
  (rs_cons (rs_forR1 PassesOwn.never rfl rfl (T.free 19) (ra_cons (re_callB (call_min2 rfl) s_min rfl (T.free 18) (by decide +kernel) (ra_cons re_int (ra_cons (re_callB (call_max2 rfl) s_max rfl (T.free 17) (by decide +kernel) (ra_cons re_int (ra_cons (re_div (re_sub (re_callB call_len s_len rfl (T.free 10) (by decide +kernel) (ra_cons (rv 1) ra_nil)) re_int) re_int) ra_nil))) ra_nil))) ra_nil) (rgn 12 sc_law.nd) (rs_cons (rst 13 sc_law.nd (re_call (g__law_at T) runDef_ar (hr.mono (by decide)) rfl passE (ra_cons (rv 1) (ra_cons (re_add (re_mul re_int (rv 12)) re_int) ra_nil))))
  (rs_cons (rst 14 sc_law.nd (re_call (g__law_at T) runDef_ar (hr.mono (by decide)) rfl passE (ra_cons (rv 1) (ra_cons (re_add (re_mul re_int (rv 12)) re_int) ra_nil))))
  (rs_cons (rs_if (rt_eq hr.units (re_mod (rv 13) re_int) re_int) (rs_cons (rst 15 sc_law.nd (re_mod (rv 14) re_int))
  (rs_cons (rst 16 sc_law.nd (re_meth (rv 9) (g_Store_take T) runDef_ar (hr.mono (by decide)) passE (ra_cons (rv 15) ra_nil)))
  (rs_one (rs_if (rt_gt (rv 15) (re_callB call_len s_len rfl (T.free 10) (by decide +kernel) (ra_cons (rv 7) ra_nil))) (rs_one (rs_if (rt_isnot (rv 16) re_non) (rs_one (rs_ret re_bl)) rs_nil)) (rs_cons (rst 17 sc_law.nd (re_sl (re_callB cr_sortedI s_sortL rfl (T.free 8) (by decide +kernel) (ra_cons (rv 7) ra_nil)) ro_none (ro_some (rv 15))))
  (rs_cons (rs_if (rt_bool (rw_or (rt_not (rt_truth (re_isi (T := "list") (by decide) rfl (T.free 11) (pty T 0 (by decide +kernel)) (rv 16)))) (rw_or1 (rt_ne hr.units (rv 16) (rv 17))))) (rs_one (rs_ret re_bl)) rs_nil)
  (rs_cons (rs_setLcA (i := 7) (by rfl) sc_law.nd (by rfl) (by rfl) (sw_true (by rfl) (by rfl) (by rfl) (by decide +kernel)) (rv 7) (blkOk_by (own := [("_law_cell", 20)]) (by show blkC ["_law_script", "_law_tape_here", "_law_threads", "_law_words", "_law_layout", "_law_thread", "_law_some", "_law_cells", "_law_passed", "_law_store", "_law_taken", "_law_out", "_law_k", "_law_number", "_law_pick", "_law_count", "_law_told", "_law_due", "_law_back", "_law_gone", "_law_cell"] (defScope (top 19)) _ _ = true; decide +kernel)) (by decide) (fun _ _ _ _ _ => (rgn 20 sc_law.nd)) (fun _ _ _ _ _ => (rts_one (rt_notin hr.units (rv 20) (rv 17)))) (fun _ _ _ _ _ => (rv 20)))
  (rs_cons (rst 10 sc_law.nd (re_add (rv 10) (rv 17)))
  (rs_one (rs_ex (re_app (rv 16) re_int))))))))))) (rs_one (rs_if (rt_eq hr.units (re_mod (rv 13) re_int) re_int) (rs_cons (rst 18 sc_law.nd (re_sl (rv 10) ro_none (ro_some (re_mod (rv 14) (re_add (re_callB call_len s_len rfl (T.free 10) (by decide +kernel) (ra_cons (rv 10) ra_nil)) re_int)))))
  (rs_cons (rst 8 sc_law.nd (re_callTy call_list_of s_list rfl (T.free 0) (by decide +kernel) (ra_cons (rv 18) ra_nil)))
  (rs_cons (rs_ex (re_meth (rv 9) (g_Store_give_back T) runDef_ar (hr.mono (by decide)) passE (ra_cons (rv 8) ra_nil)))
  (rs_cons (rs_ex (re_app (rv 8) re_int))
  (rs_cons (rst 10 sc_law.nd (re_sl (rv 10) (ro_some (re_callB call_len s_len rfl (T.free 10) (by decide +kernel) (ra_cons (rv 18) ra_nil))) ro_none))
  (rs_one (rst 7 sc_law.nd (re_add (rv 7) (rv 18))))))))) (rs_cons (rst 19 sc_law.nd (re_sl (rv 10) ro_none (ro_some (re_mod (rv 14) (re_add (re_callB call_len s_len rfl (T.free 10) (by decide +kernel) (ra_cons (rv 10) ra_nil)) re_int)))))
  (rs_cons (rst 8 sc_law.nd (re_callTy call_list_of s_list rfl (T.free 0) (by decide +kernel) (ra_cons (rv 19) ra_nil)))
  (rs_cons (rs_ex (re_meth (rv 9) (g_Store_take_out T) runDef_ar (hr.mono (by decide)) passE (ra_cons (rv 8) ra_nil)))
  (rs_cons (rs_ex (re_app (rv 8) re_int))
  (rs_cons (rst 10 sc_law.nd (re_sl (rv 10) (ro_some (re_callB call_len s_len rfl (T.free 10) (by decide +kernel) (ra_cons (rv 19) ra_nil))) ro_none))
  (rs_one (rst 11 sc_law.nd (re_add (rv 11) (rv 19))))))))))))
  (rs_one (rs_if (rt_not (rt_truth (re_call (g__law_same T) runDef_ar (hr.mono (by decide)) rfl passE (ra_cons (rv 9) (ra_cons (rv 7) (ra_cons (rv 11) ra_nil)))))) (rs_one (rs_ret re_bl)) rs_nil))))))
  (rs_one (rs_ret re_bl))))))))))))))))))
end
end Dk

namespace Dk
open PySem PySem.Spec PyProof.Rows L2 R1
theorem run (w : World) : HandSHeadRun.RunEq R (PySem.W.view R.prog [19]) hk ob 3000 loose w := by
  intro os
  kernel_rfl
end Dk
open PySem PySem.W PySem.Calls PyProof.Rows
theorem PySem.Challenge.cw_driftkept_k07_stores_holds : PySem.Challenge.rw_driftkept_k07_stores.Holds := by
  w_on; o_law
  refine HandSHeadRun.head_any (r := OpenLaw.row PySem.Challenge.rw_driftkept_k07_stores) (q := view (OpenLaw.row PySem.Challenge.rw_driftkept_k07_stores).prog [19]) (H := Dk.hk) (ob := Dk.ob) (M := 3000) (loose := Dk.loose) (d := HandSHeadRun.topDef (OpenLaw.row PySem.Challenge.rw_driftkept_k07_stores).prog 19) (kwd := []) Dk.ob_eq
    (by kernel_rfl) (fun s => by kernel_rfl) Dk.run (by kernel_rfl) (by kernel_rfl) (by kernel_rfl) (by rfl) (by first | assumption | decide +kernel) (by decide +kernel) ⟨rfl, rfl, rfl, rfl, rfl, by decide +kernel⟩ ?hw ?hc
  case hw => w_witness2
  case hc =>
    refine L2.walk_ofE (l := PySem.Challenge.rw_driftkept_k07_stores) (n := 63) (k := 4) (x := "_law_script") (CX := L2.CX0) rfl (by decide) (by kernel_rfl) ⟨rfl, by decide, by decide⟩ ?F (fun _ _ _ _ z => z)
    intro w mg fa h Y G hmg0
    obtain ⟨K, KX, c⟩ := Y
    have hmg : mg ("law" : PySem.Str) = some (.ref fa) := by
      have e : (HandSHeadRun.topDef (OpenLaw.row PySem.Challenge.rw_driftkept_k07_stores).prog 19).name = ("law" : PySem.Str) := by kernel_rfl
      rw [← e]
      exact hmg0
    have T : R1.Txt Dk.fa Dk.fn K mg := ⟨c, h, KX, G⟩
    obtain ⟨fd, F⟩ := c.def_ 14 (d := Dk.d_law) rfl
    have e := hmg.symm.trans (T.glo 40)
    cases e
    have b := L2.FunD.bindsA (ps := ["_law_script"]) F (fun _ _ _ _ _ _ us hl => match us, hl with | [_], _ => rfl)
    exact ⟨K, fd, R1.spF K 1 Dk.m_law, KX, fun s v => b s [v] rfl, fun H a ns hl ho hS => R1.end_of ho hS (Dk.mirror_holds ns hl), fun base _ _ => Dk.ok_law ⟨c, h, KX, G⟩ F⟩

